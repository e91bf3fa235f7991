import Derived.Test.YtnackipaoepmfaaGreatJMir
import Derived.Test.YtnackipaoepmfaaGreatJAuto
set_option linter.unusedSimpArgs false
set_option linter.unusedVariables false
set_option linter.unusedSimpArgs false
set_option linter.unusedVariables false
namespace Go.Proofs.YtnackipaoepmfaaGreat
open Go Go.RowKit
set_option maxRecDepth 100000
set_option maxHeartbeats 20000000
instance W48 : ∀ (p0 : (List Int)), Ct (Q44 p0) fun res => J6 Tryz.prog 0o00103 [] [(.slice 1 (List.map (rK .u8) p0))] (fun H d => H = [some ⟨2, [(Y1 res)], 0, 0x00c4⟩] ∧ d = .ptr 2 0 0 0) :=
 au Tryz.func67 Q44.eq_1 (.o (.j 1 0 [0] [] (fun (s3 : (List Int)) => [(0, .slice 1 (List.map (rK .u8) s3))]) (fun _ => []) .z (fun _ => .z)))
end Go.Proofs.YtnackipaoepmfaaGreat
set_option linter.unusedSimpArgs false
set_option linter.unusedVariables false
namespace Go.Proofs.YtnackipaoepmfaaGreat
open Go Go.RowKit
set_option maxRecDepth 100000
set_option maxHeartbeats 20000000
instance X8g : ∀ (p0 : Z8) (p1 : Int), Ct (Z7 p0 p1) fun res => J6 Tryz.prog 0o00105 [⟨2, [(Y1 p0)], 0, 0x00c4⟩] [.ptr 2 0 0 0, (eI p1)] (fun H d => H = [some ⟨2, [(Y1 res.2)], 0, 0x00c4⟩] ∧ d = (eI res.1)) :=
 au Tryz.func69 Z7.eq_1 (.o (.o (.i .z (.i .z (.i .z (.g [0, 1, 5] [0] [] [] (.o (.o (.o (.d [0, 1, 2, 3, 4, 5, 6, 7, 8, 9, 10, 11, 12, 13, 14, 15, 16, 17, 18, 19, 20, 21, 22, 23, 24, 25, 26, 27, 28, 29, 30, 31, 32, 33, 34, 35, 36, 37, 38, 39, 40, 41, 42, 43, 44, 45] [0] [] .z))))))))))
end Go.Proofs.YtnackipaoepmfaaGreat
set_option linter.unusedSimpArgs false
set_option linter.unusedVariables false
namespace Go.Proofs.YtnackipaoepmfaaGreat
open Go Go.RowKit
set_option maxRecDepth 100000
set_option maxHeartbeats 20000000
instance X9r : ∀ (p0 : Z8) (p1 : (List Int)), Ct (X4 p0 p1) fun res => J6 Tryz.prog 0o00144 [⟨2, [(Y1 p0)], 0, 0x00c4⟩] [.ptr 2 0 0 0, (.slice 1 (List.map rI p1))] (fun H d => H = [some ⟨2, [(Y1 res.2)], 0, 0x00c4⟩] ∧ d = (eI res.1)) :=
 au Tryz.func100 X4.eq_1 .z
end Go.Proofs.YtnackipaoepmfaaGreat
set_option linter.unusedSimpArgs false
set_option linter.unusedVariables false
namespace Go.Proofs.YtnackipaoepmfaaGreat
open Go Go.RowKit
set_option maxRecDepth 100000
set_option maxHeartbeats 20000000
instance W1x : ∀ (p0 : Z8) (p1 : Q0), Ct (Q3e p0 p1) fun res => J6 Tryz.prog 0o00263 [⟨2, [(Y1 p0)], 0, 0x00c4⟩] [.ptr 2 0 0 0, (.agg (Q8 p1))] (fun H d => H = [some ⟨2, [(Y1 res.2)], 0, 0x00c4⟩] ∧ d = (.agg (Q8 res.1))) :=
 au Tryz.func179 Q3e.eq_1 (.o (.b fun (p1 : Q0) => .o (.j 3 0 [4, 5] [0, 9, 25, 65] (fun (s17 : Z8 × Int × Int × Int × Int × (List Q0)) => []) (fun s17 => [(0, some ⟨2, [(Y1 s17.1)], 0, 0x00c4⟩), (1000000025, some ⟨6, [[(eI s17.2.1), (eI s17.2.2.1), (eI s17.2.2.2.1), (eI p1.m), (eI s17.2.2.2.2.1), (.sl 6 65 (s17.2.2.2.2.2).length)]], 0, 0x0033⟩), (65, some ⟨6, (List.map Q8 s17.2.2.2.2.2), 0, 0x0033⟩)]) .z (fun _ => .pF 3 .z))))
end Go.Proofs.YtnackipaoepmfaaGreat
set_option linter.unusedSimpArgs false
set_option linter.unusedVariables false
namespace Go.Proofs.YtnackipaoepmfaaGreat
open Go Go.RowKit
set_option maxRecDepth 100000
set_option maxHeartbeats 20000000
instance W1u : ∀ (n : Nat) (p0 : Z8) (p1 : (List Q7)), Ct (Q4f n p0 p1) fun res => J6 Tryz.prog 0o00143 [⟨2, [(Y1 p0)], 0, 0x00c4⟩] [.ptr 2 0 0 0, (.slice 9 (List.map V6 p1))] (fun H d => H = [some ⟨2, [(Y1 res.2)], 0, 0x00c4⟩, some ⟨9, List.map V6 res.1, 0, 0x0037⟩] ∧ d = .sl 9 1 res.1.length) :=
 au Tryz.func99 Q4f.eq_1 (.o (.o (.o (.o (.j 2 0 [5] [0, 25] (fun (s37 : Z8 × (List Q7)) => [(5, .sl 9 25 (s37.2).length)]) (fun s37 => [(0, some ⟨2, [(Y1 s37.1)], 0, 0x00c4⟩), (25, some ⟨9, (List.map V6 s37.2), 0, 0x0037⟩)]) (.o (.i .z (.i .z (.i (.w [5] [0, 25] [5] [0, 25] (fun (s63 : (List Q7)) => [(5, .sl 9 25 (s63).length)]) (fun s63 => [(25, some ⟨9, (List.map V6 s63), 0, 0x0037⟩)]) (fun s63 => .z) (fun s71 => .z)) .z)))) (fun _ => .z))))))
end Go.Proofs.YtnackipaoepmfaaGreat
set_option linter.unusedSimpArgs false
set_option linter.unusedVariables false
namespace Go.Proofs.YtnackipaoepmfaaGreat
open Go Go.RowKit
set_option maxRecDepth 100000
set_option maxHeartbeats 20000000
instance W68 : ∀ (p0 : Int), Ct (Q5z p0) fun res => Z1 Tryz.prog 0o00540 [(eI p0)] (fun d => d = (eI res)) :=
 au Tryz.func352 Q5z.eq_1 .z
end Go.Proofs.YtnackipaoepmfaaGreat
set_option linter.unusedSimpArgs false
set_option linter.unusedVariables false
namespace Go.Proofs.YtnackipaoepmfaaGreat
open Go Go.RowKit
set_option maxRecDepth 100000
set_option maxHeartbeats 20000000
instance W20 : ∀ (p0 : Q6r) (p1 : Int), Ct (Q7j p0 p1) fun res => Z1 Tryz.prog 0o00367 [(.agg (Q5u p0)), (eI p1)] (fun d => d = (eI res)) :=
 au Tryz.func247 Q7j.eq_1 .z
end Go.Proofs.YtnackipaoepmfaaGreat
set_option linter.unusedSimpArgs false
set_option linter.unusedVariables false
namespace Go.Proofs.YtnackipaoepmfaaGreat
open Go Go.RowKit
set_option maxRecDepth 100000
set_option maxHeartbeats 20000000
instance W6m : ∀ (p0 : (List Q3)) (p1 : Q5) (p2 : Int), Ct (Q0h p0 p1 p2) fun res => Z1 Tryz.prog 0o00234 [(.slice 2 (List.map V0 p0)), (.agg (W9 p1)), (eI p2)] (fun d => d = (.slice 2 (List.map W9 res))) :=
 au Tryz.func156 Q0h.eq_1 (.o (.o (.o (.o (.b fun (x2 : Q6r) => .lc 104 1 2 W9 x2.args (.f [7] [16] [4, 7, 8, 9] [0, 16, 104] (fun (k118 : Nat) (s114 : (List Q5)) => [(7, .sl 2 16 (s114).length), (9, eI (k118 : Int))]) (fun k118 s114 => [(16, some ⟨2, (List.map W9 s114), 0, 0x0019⟩)]) (fun k118 s114 => .b fun (x119 : Q5) => .j 7 0 [4, 7, 8, 9, 10] [0, 1, 2, 83] (fun (s133 : Int) => []) (fun s133 => [(83, some ⟨2, [[(eI x119.data), (eI s133)]], 0, 0x0019⟩)]) .z (fun _ => .z)) (fun s122 => .z)))))))
end Go.Proofs.YtnackipaoepmfaaGreat
set_option linter.unusedSimpArgs false
set_option linter.unusedVariables false
namespace Go.Proofs.YtnackipaoepmfaaGreat
open Go Go.RowKit
set_option maxRecDepth 100000
set_option maxHeartbeats 20000000
instance W3u : ∀ (n : Nat) (p0 : (List Q3)) (p1 : Q5) (p2 : Q0), Ct (Q34 n p0 p1 p2) fun res => Z1 Tryz.prog 0o00473 [(.slice 2 (List.map V0 p0)), (.agg (W9 p1)), (.agg (Q8 p2))] (fun d => d = (.slice 2 (List.map W9 res))) :=
 au Tryz.func315 Q34.eq_1 (.o (.o (.o (.o (.i .z (.w [7] [48] [4, 5, 7, 8] [0, 8, 48] (fun (s52 : (List Q5) × Int) => [(7, .sl 2 48 (s52.1).length), (8, eI s52.2)]) (fun s52 => [(48, some ⟨2, (List.map W9 s52.1), 0, 0x0019⟩)]) (fun s52 => .z) (fun s60 => .z)))))))
end Go.Proofs.YtnackipaoepmfaaGreat
set_option linter.unusedSimpArgs false
set_option linter.unusedVariables false
namespace Go.Proofs.YtnackipaoepmfaaGreat
open Go Go.RowKit
set_option maxRecDepth 100000
set_option maxHeartbeats 20000000
instance W65 : ∀ (n : Nat) (p0 : (List Q9)) (p1 : (List Q3)) (p2 : Q5) (p3 : Q0), Ct (Q0s n p0 p1 p2 p3) fun res => J6 Tryz.prog 0o00403 [⟨3, List.map V4 p0, 0, 0x0164⟩] [.sl 3 0 p0.length, (.slice 2 (List.map V0 p1)), (.agg (W9 p2)), (.agg (Q8 p3))] (fun H d => H = [none, some ⟨3, List.map V4 res, 0, 0x0164⟩] ∧ d = .sl 3 1 res.length) :=
 ar (au Tryz.func259 Q0s.eq_2 (.o (.o (.o (.o (.o (.o (.j 1 0 [0, 1, 6, 7] [0, 9000, 1, 9] (fun (s10 : (List Q9)) => [(0, .sl 3 9000 (s10).length)]) (fun s10 => [(0, none), (9000, some ⟨3, (List.map V4 s10), 0, 0x0164⟩)]) (.i .z (.i .z (.pM 0 .z))) (fun s10 => .o (.ls 29 (.f [0] [0, 1] [0, 1, 7, 9, 10] [0, 1, 3] (fun (k159 : Nat) (s155 : (List Q9)) => [(0, .sl 3 1 (s155).length), (10, eI (k159 : Int))]) (fun k159 s155 => [(0, none), (1, some ⟨3, (List.map V4 s155), 0, 0x0164⟩)]) (fun k159 s155 => .o (.j 5 0 [0, 1, 7, 9, 10] [0, 1, 2] (fun (s169 : Unit) => []) (fun _ => [(0, none)]) .z (fun _ => .g [0, 1, 7, 9, 10] [0, 1, 2] [] [(0, none)] (.o (.o (.d [0, 1, 2, 3, 4, 5, 6, 7, 8, 9, 10, 11, 12] [2] [] .z)))))) (fun s163 => .z))))))))))))
end Go.Proofs.YtnackipaoepmfaaGreat
set_option linter.unusedSimpArgs false
set_option linter.unusedVariables false
namespace Go.Proofs.YtnackipaoepmfaaGreat
open Go Go.RowKit
set_option maxRecDepth 100000
set_option maxHeartbeats 20000000
instance W67 : ∀ (n : Nat) (p0 : Z8) (p1 : Q0) (p2 : Int), Ct (Q4s n p0 p1 p2) fun res => J6 Tryz.prog 0o00351 [⟨2, [(Y1 p0)], 0, 0x00c4⟩] [.ptr 2 0 0 0, (.agg (Q8 p1)), (eI p2)] (fun H d => H = [some ⟨2, [(Y1 res.2.2)], 0, 0x00c4⟩] ∧ d = .tup [(.agg (Q8 res.1)), (eI res.2.1)]) :=
 ar (au Tryz.func233 Q4s.eq_2 (.o (.o (.o (.b fun (p1 : Q0) => .o (.i .z (.i .z (.i .z (.j 3 0 [0, 2, 4, 6] [0, 1, 9] (fun (s25 : Z8) => []) (fun s25 => [(0, some ⟨2, [(Y1 s25)], 0, 0x00c4⟩)]) .z (fun s25 => .pC 11 5 6 0x0033 (.lc 1 5 6 Q8 p1.kids (.f [0, 6, 8, 9] [0, 2, 11, 67] [0, 4, 6, 8, 9, 10] [0, 1, 2, 11, 67] (fun (k95 : Nat) (s91 : Z8 × (List Q0) × Int) => [(9, eI s91.2.2), (10, eI (k95 : Int))]) (fun k95 s91 => [(0, some ⟨2, [(Y1 s91.1)], 0, 0x00c4⟩), (1000000011, some ⟨6, [[(eI p1.op), (eI p1.ctor), (eI p1.n), (eI p1.m), (eI p1.var), (.sl 6 67 (s91.2.1).length)]], 0, 0x0033⟩), (67, some ⟨6, (List.map Q8 s91.2.1), 0, 0x0033⟩)]) (fun k95 s91 => .z) (fun s99 => .j 14 0 [6, 8, 9] [0, 1, 2, 3] (fun (s112 : Z8) => []) (fun s112 => [(0, some ⟨2, [(Y1 s112)], 0, 0x00c4⟩), (1000000002, some ⟨6, [[(eI p1.op), (eI p1.ctor), (eI p1.n), (eI p1.m), (eI p1.var), (.sl 6 3 (s99.2.1).length)]], 0, 0x0033⟩)]) (.i (.o (.i (.pF 3 (.pF 76 .z)) .z)) .z) (fun _ => .pF 3 .z))))))))))))))
end Go.Proofs.YtnackipaoepmfaaGreat
set_option linter.unusedSimpArgs false
set_option linter.unusedVariables false
namespace Go.Proofs.YtnackipaoepmfaaGreat
open Go Go.RowKit
set_option maxRecDepth 100000
set_option maxHeartbeats 20000000
instance W6i : ∀ (p0 : Q6r) (p1 : Int), Ct (Q95 p0 p1) fun res => Z1 Tryz.prog 0o00365 [(.agg (Q5u p0)), (eI p1)] (fun d => d = (eB res)) :=
 au Tryz.func245 Q95.eq_1 .z
end Go.Proofs.YtnackipaoepmfaaGreat
set_option linter.unusedSimpArgs false
set_option linter.unusedVariables false
namespace Go.Proofs.YtnackipaoepmfaaGreat
open Go Go.RowKit
set_option maxRecDepth 100000
set_option maxHeartbeats 20000000
instance W47 : ∀ (p0 : (List Q3)) (p1 : Q5), Ct (Q0p p0 p1) fun res => Z1 Tryz.prog 0o00231 [(.slice 2 (List.map V0 p0)), (.agg (W9 p1))] (fun d => d = (.slice 1 (List.map rI res))) :=
 au Tryz.func153 Q0p.eq_1 (.o (.o (.i .z (.b fun (x115 : Q3) => .le 0 1 3 Q5u x115.ctors x115 (.f [5] [16] [0, 3, 5, 6] [0, 16] (fun (k149 : Nat) (s145 : (List Int)) => [(5, .sl 1 16 (s145).length), (6, eI (k149 : Int))]) (fun k149 s145 => [(16, some ⟨1, (List.map rI s145), 0, 0x0003⟩)]) (fun k149 s145 => .o (.j 7 0 [0, 3, 5, 6] [0, 1] (fun (s157 : (List Int)) => [(5, .sl 1 1 (s157).length)]) (fun s157 => [(1, some ⟨1, (List.map rI s157), 0, 0x0003⟩)]) (.g [0, 3, 5, 6] [0, 1] [] [] (.o (.d [0, 1, 2, 3, 4, 5, 6, 7, 8, 9, 10, 11] [0] [] .z))) (fun _ => .z))) (fun s153 => .z))))))
end Go.Proofs.YtnackipaoepmfaaGreat
set_option linter.unusedSimpArgs false
set_option linter.unusedVariables false
namespace Go.Proofs.YtnackipaoepmfaaGreat
open Go Go.RowKit
set_option maxRecDepth 100000
set_option maxHeartbeats 20000000
instance W6a : ∀ (n : Nat) (p0 : Z8) (p1 : (List Q3)) (p2 : Q5) (p3 : Int), Ct (Q20 n p0 p1 p2 p3) fun res => J6 Tryz.prog 0o00352 [⟨2, [(Y1 p0)], 0, 0x00c4⟩] [.ptr 2 0 0 0, (.slice 2 (List.map V0 p1)), (.agg (W9 p2)), (eI p3)] (fun H d => H = [some ⟨2, [(Y1 res.2)], 0, 0x00c4⟩] ∧ d = (.agg (Q8 res.1))) :=
 ar (au Tryz.func234 Q20.eq_2 (.o (.o (.o (.o (.o (.o (.i .z (.o (.i .z (.o (.i (.g [0, 1, 3, 6, 8] [0, 1, 9] [] [] (.o (.o (.d [0, 1, 2, 3, 4, 6, 7, 8, 9, 10, 5, 11, 12, 13, 14] [1] [] (.pF 19 .z))))) (.i .z (.o (.i .z (.o (.b fun (x37 : Int) => .o (.pC 241 5 6 0x0033 (.ls 74 (.f [8, 11] [0, 9, 241, 313] [0, 1, 3, 8, 11, 12, 13] [0, 9, 241, 313] (fun (k96 : Nat) (s92 : Z8 × (List Q0)) => [(13, eI (k96 : Int))]) (fun k96 s92 => [(0, some ⟨2, [(Y1 s92.1)], 0, 0x00c4⟩), (1000000241, some ⟨6, [[(eI 4), (eI x37), (eI 0), (eI 0), (eI 0), (.sl 6 313 (s92.2).length)]], 0, 0x0033⟩), (313, some ⟨6, (List.map Q8 s92.2), 0, 0x0033⟩)]) (fun k96 s92 => .o (.g [0, 1, 3, 8, 11, 12, 13] [0, 1, 2, 3] [] [(1000000002, some ⟨6, [[(eI 4), (eI x37), (eI 0), (eI 0), (eI 0), (.sl 6 3 (s92.2).length)]], 0, 0x0033⟩)] (.o (.o (.d [0, 1, 2, 3, 4, 5, 6, 7, 8, 9, 10, 11, 12, 13, 14] [2] [94] .z))))) (fun s100 => .pF 3 .z)))))))))))))))))))))
end Go.Proofs.YtnackipaoepmfaaGreat
set_option linter.unusedSimpArgs false
set_option linter.unusedVariables false
namespace Go.Proofs.YtnackipaoepmfaaGreat
open Go Go.RowKit
set_option maxRecDepth 100000
set_option maxHeartbeats 20000000
instance W8h : ∀ (p0 : (List Int)) (p1 : Int), Ct (Q4h p0 p1) fun res => Z1 Tryz.prog 0o00160 [(.slice 1 (List.map rI p0)), (eI p1)] (fun d => d = (eB res)) :=
 au Tryz.func112 Q4h.eq_1 (.o (.o (.ls 0 (.f [] [] [0, 1, 5] [] (fun (k44 : Nat) (s40 : Unit) => [(5, eI (k44 : Int))]) (fun k44 s40 => []) (fun k44 s40 => .z) (fun s48 => .z)))))
end Go.Proofs.YtnackipaoepmfaaGreat
set_option linter.unusedSimpArgs false
set_option linter.unusedVariables false
namespace Go.Proofs.YtnackipaoepmfaaGreat
open Go Go.RowKit
set_option maxRecDepth 100000
set_option maxHeartbeats 20000000
instance W8g : ∀ (p0 : (List Q3)) (p1 : Q5) (p2 : Q0), Ct (Q6n p0 p1 p2) fun res => Z1 Tryz.prog 0o00514 [(.slice 2 (List.map V0 p0)), (.agg (W9 p1)), (.agg (Q8 p2))] (fun d => d = (eB res)) :=
 au Tryz.func332 Q6n.eq_1 (.o (.o (.o (.e (.j 1 0 [0, 4, 5, 7] [0, 8] (fun (s2 : Bool) => [(7, eB s2)]) (fun _ => []) .z (fun s2 => .j 2 0 [0, 4, 5] [0, 1] (fun (s17 : Unit) => []) (fun _ => []) .z (fun s17 => .j 4 0 [0, 4, 5] [0, 1] (fun (s50 : Unit) => []) (fun _ => []) .z (fun s50 => .j 7 0 [0, 4, 5, 60, 61] [0, 1] (fun (s95 : Bool) => [(61, eB s95)]) (fun _ => []) .z (fun s95 => .i .z (.i .z (.i (.g [0, 4, 5] [0, 1] [] [] (.o (.o (.d [0, 1, 3, 4, 2, 5, 6] [0, 1] [] .z)))) .z)))))))))))
end Go.Proofs.YtnackipaoepmfaaGreat
set_option linter.unusedSimpArgs false
set_option linter.unusedVariables false
namespace Go.Proofs.YtnackipaoepmfaaGreat
open Go Go.RowKit
set_option maxRecDepth 100000
set_option maxHeartbeats 20000000
instance W3w : ∀ (n : Nat) (p0 : (List Q3)) (p1 : Q5) (p2 : Q0) (p3 : Int), Ct (Q23 n p0 p1 p2 p3) fun res => Z1 Tryz.prog 0o00452 [(.slice 2 (List.map V0 p0)), (.agg (W9 p1)), (.agg (Q8 p2)), (eI p3)] (fun d => d = (eB res)) :=
 ar (au Tryz.func298 Q23.eq_2 (.o (.o (.o (.o (.o (.o (.i .z (.o (.i .z (.o (.i .z (.ls 23 (.f [] [] [0, 3, 6, 9, 10] [8] (fun (k83 : Nat) (s79 : Unit) => [(10, eI (k83 : Int))]) (fun k83 s79 => []) (fun k83 s79 => .o (.g [0, 3, 6, 9, 10] [0] [] [] (.o (.o (.d [0, 1, 2, 3, 4, 5, 6, 7, 8, 9, 10, 11, 12, 13] [0] [] .z))))) (fun s87 => .z)))))))))))))))
end Go.Proofs.YtnackipaoepmfaaGreat
set_option linter.unusedSimpArgs false
set_option linter.unusedVariables false
namespace Go.Proofs.YtnackipaoepmfaaGreat
open Go Go.RowKit
set_option maxRecDepth 100000
set_option maxHeartbeats 20000000
instance W3x : ∀ (n : Nat) (p0 : Q0) (p1 : Int), Ct (Q35 n p0 p1) fun res => Z1 Tryz.prog 0o00453 [(.agg (Q8 p0)), (eI p1)] (fun d => d = (eI res)) :=
 ar (au Tryz.func299 Q35.eq_2 (.o (.o (.b fun (p0 : Q0) => .o (.lc 0 5 6 Q8 p0.kids (.f [5] [] [1, 2, 5, 6] [0] (fun (k80 : Nat) (s76 : Int) => [(5, eI s76), (6, eI (k80 : Int))]) (fun k80 s76 => []) (fun k80 s76 => .z) (fun s84 => .z)))))))
end Go.Proofs.YtnackipaoepmfaaGreat
set_option linter.unusedSimpArgs false
set_option linter.unusedVariables false
namespace Go.Proofs.YtnackipaoepmfaaGreat
open Go Go.RowKit
set_option maxRecDepth 100000
set_option maxHeartbeats 20000000
instance W69 : ∀ (p0 : (List Q9)) (p1 : Int), Ct (Q2q p0 p1) fun res => Z1 Tryz.prog 0o00472 [(.slice 3 (List.map V4 p0)), (eI p1)] (fun d => d = (eI res)) :=
 au Tryz.func314 Q2q.eq_1 (.o (.o (.ls 0 (.f [] [] [0, 1, 5] [] (fun (k44 : Nat) (s40 : Unit) => [(5, eI (k44 : Int))]) (fun k44 s40 => []) (fun k44 s40 => .z) (fun s48 => .z)))))
end Go.Proofs.YtnackipaoepmfaaGreat
set_option linter.unusedSimpArgs false
set_option linter.unusedVariables false
namespace Go.Proofs.YtnackipaoepmfaaGreat
open Go Go.RowKit
set_option maxRecDepth 100000
set_option maxHeartbeats 20000000
instance W3y : ∀ (p0 : (List Q9)) (p1 : (List Q9)), Ct (Q42 p0 p1) fun res => Z1 Tryz.prog 0o00515 [(.slice 3 (List.map V4 p0)), (.slice 3 (List.map V4 p1))] (fun d => d = (eB res)) :=
 au Tryz.func333 Q42.eq_1 (.o (.o (.ls 0 (.f [0, 1] [] [0, 1, 5] [] (fun (k124 : Nat) (s120 : Unit) => [(5, eI (k124 : Int))]) (fun k124 s120 => []) (fun k124 s120 => .o (.o (.g [0, 1, 5, 6] [] [] [] (.i (.d [0, 1, 2, 3, 4, 5, 6, 7, 8, 9, 10, 11, 12, 13, 14] [] [] .z) (.o (.d [0, 1, 2, 3, 4, 5, 6, 7, 8, 9, 10, 11, 12, 13, 14] [] [] .z)))))) (fun s128 => .z)))))
end Go.Proofs.YtnackipaoepmfaaGreat
set_option linter.unusedSimpArgs false
set_option linter.unusedVariables false
namespace Go.Proofs.YtnackipaoepmfaaGreat
open Go Go.RowKit
set_option maxRecDepth 100000
set_option maxHeartbeats 20000000
instance W1y : ∀ (n : Nat) (p0 : (List Q3)) (p1 : Q5) (p2 : Q0), Ct (Q2c n p0 p1 p2) fun res => Z1 Tryz.prog 0o00454 [(.slice 2 (List.map V0 p0)), (.agg (W9 p1)), (.agg (Q8 p2))] (fun d => d = (eB res)) :=
 ar (au Tryz.func300 Q2c.eq_2 (.o (.o (.o (.o (.o (.o (.ls 14 (.f [0, 4, 5] [0, 8] [0, 4, 5, 7, 8] [0, 8] (fun (k65 : Nat) (s61 : Unit) => [(8, eI (k65 : Int))]) (fun k65 s61 => []) (fun k65 s61 => .o (.g [0, 4, 5, 7, 8] [0, 1] [] [] (.o (.o (.d [0, 1, 2, 3, 4, 5, 6, 7, 8, 9, 10, 11] [1] [] .z))))) (fun s69 => .i (.g [0, 4, 5] [0, 1] [] [] (.o (.o (.o (.o (.o (.d [0, 1, 2, 3, 4, 5, 7, 8, 9, 10, 11, 12, 6, 13, 14, 15] [0, 1] [] .z))))))) (.o (.ll 51 (.f [] [] [9, 10] [51] (fun (k142 : Nat) (s138 : Unit) => [(10, eI (k142 : Int))]) (fun k142 s138 => []) (fun k142 s138 => .z) (fun s146 => .z))))))))))))))
end Go.Proofs.YtnackipaoepmfaaGreat
set_option linter.unusedSimpArgs false
set_option linter.unusedVariables false
namespace Go.Proofs.YtnackipaoepmfaaGreat
open Go Go.RowKit
set_option maxRecDepth 100000
set_option maxHeartbeats 20000000
instance V0a : ∀ (n : Nat) (p0 : (List Q3)) (p1 : Q5) (p2 : Q0), Ct (Q6c n p0 p1 p2) fun res => Z1 Tryz.prog 0o00353 [(.slice 2 (List.map V0 p0)), (.agg (W9 p1)), (.agg (Q8 p2))] (fun d => d = (eB res)) :=
 au Tryz.func235 Q6c.eq_1 .z
end Go.Proofs.YtnackipaoepmfaaGreat
set_option linter.unusedSimpArgs false
set_option linter.unusedVariables false
namespace Go.Proofs.YtnackipaoepmfaaGreat
open Go Go.RowKit
set_option maxRecDepth 100000
set_option maxHeartbeats 20000000
instance W66 : ∀ (n : Nat) (p0 : Z8) (p1 : (List Q3)) (p2 : Q5), Ct (Q5y n p0 p1 p2) fun res => J6 Tryz.prog 0o00216 [⟨2, [(Y1 p0)], 0, 0x00c4⟩] [.ptr 2 0 0 0, (.slice 2 (List.map V0 p1)), (.agg (W9 p2))] (fun H d => H = [some ⟨2, [(Y1 res.2)], 0, 0x00c4⟩] ∧ d = (.agg (Q8 res.1))) :=
 au Tryz.func142 Q5y.eq_1 (.o (.o (.o (.o (.g [0, 1, 5, 6] [0, 1, 9] [] [] (.o (.o (.o (.dz [0, 1, 2, 3, 4, 5, 6, 7, 8, 9, 10, 11, 12, 13, 14] [1] [1048583] [] .z)))))))))
end Go.Proofs.YtnackipaoepmfaaGreat
set_option linter.unusedSimpArgs false
set_option linter.unusedVariables false
namespace Go.Proofs.YtnackipaoepmfaaGreat
open Go Go.RowKit
set_option maxRecDepth 100000
set_option maxHeartbeats 20000000
instance W1v : ∀ (n : Nat) (p0 : Z8) (p1 : (List Q3)) (p2 : Q5), Ct (Q4g n p0 p1 p2) fun res => J6 Tryz.prog 0o00364 [⟨2, [(Y1 p0)], 0, 0x00c4⟩] [.ptr 2 0 0 0, (.slice 2 (List.map V0 p1)), (.agg (W9 p2))] (fun H d => H = [some ⟨2, [(Y1 res.2)], 0, 0x00c4⟩] ∧ d = (.agg (V6 res.1))) :=
 au Tryz.func244 Q4g.eq_1 (.o (.o (.o (.o (.b fun (r1 : (Q0 × Z8)) => .o (.ll 106 (.f [6, 7] [0, 9, 57] [0, 6, 7, 8, 9] [0, 9, 57, 106] (fun (k195 : Nat) (s191 : Z8 × Int × Int × Int) => [(9, eI (k195 : Int))]) (fun k195 s191 => [(0, some ⟨2, [(Y1 s191.1)], 0, 0x00c4⟩), (57, some ⟨9, [[(eI r1.1.op), (eI r1.1.ctor), (eI r1.1.n), (eI r1.1.m), (eI r1.1.var), (.slice 6 (List.map Q8 r1.1.kids)), (eI s191.2.1), (eI s191.2.2.1), (eI s191.2.2.2)]], 0, 0x0037⟩)]) (fun k195 s191 => .o (.j 6 0 [0, 6, 7, 8, 9] [0, 1, 2, 3] (fun (s212 : Z8 × Int × Int × Int) => []) (fun s212 => [(0, some ⟨2, [(Y1 s212.1)], 0, 0x00c4⟩), (2, some ⟨9, [[(eI r1.1.op), (eI r1.1.ctor), (eI r1.1.n), (eI r1.1.m), (eI r1.1.var), (.slice 6 (List.map Q8 r1.1.kids)), (eI s212.2.1), (eI s212.2.2.1), (eI s212.2.2.2)]], 0, 0x0037⟩)]) (.i (.o (.i (.g [0, 6, 7, 8, 9] [0, 1, 2, 3] [] [] (.o (.o (.d [0, 3, 4, 5, 6, 7, 8, 1, 2, 9, 10, 11, 12] [3] [] .z)))) .z)) .z) (fun _ => .z))) (fun s199 => .z))))))))
end Go.Proofs.YtnackipaoepmfaaGreat
set_option linter.unusedSimpArgs false
set_option linter.unusedVariables false
namespace Go.Proofs.YtnackipaoepmfaaGreat
open Go Go.RowKit
set_option maxRecDepth 100000
set_option maxHeartbeats 20000000
instance W64 : ∀ (n : Nat) (p0 : Z8) (p1 : (List Q3)) (p2 : Q5), Ct (Q5x n p0 p1 p2) fun res => J6 Tryz.prog 0o00230 [⟨2, [(Y1 p0)], 0, 0x00c4⟩] [.ptr 2 0 0 0, (.slice 2 (List.map V0 p1)), (.agg (W9 p2))] (fun H d => H = [some ⟨2, [(Y1 res.2)], 0, 0x00c4⟩, some ⟨9, List.map V6 res.1, 0, 0x0037⟩] ∧ d = .sl 9 1 res.1.length) :=
 au Tryz.func152 Q5x.eq_1 (.o (.o (.o (.o (.o (.w [7] [0, 17] [0, 1, 5, 7, 8] [0, 1, 17] (fun (s50 : Z8 × (List Q7) × Int) => [(7, .sl 9 17 (s50.2.1).length), (8, eI s50.2.2)]) (fun s50 => [(0, some ⟨2, [(Y1 s50.1)], 0, 0x00c4⟩), (17, some ⟨9, (List.map V6 s50.2.1), 0, 0x0037⟩)]) (fun s50 => .z) (fun s58 => .z)))))))
end Go.Proofs.YtnackipaoepmfaaGreat
set_option linter.unusedSimpArgs false
set_option linter.unusedVariables false
namespace Go.Proofs.YtnackipaoepmfaaGreat
open Go Go.RowKit
set_option maxRecDepth 100000
set_option maxHeartbeats 20000000
instance W6g : ∀ (p0 : Q5), Ct (Q94 p0) fun res => Z1 Tryz.prog 0o00366 [(.agg (W9 p0))] (fun d => d = (eI res)) :=
 au Tryz.func246 Q94.eq_1 .z
end Go.Proofs.YtnackipaoepmfaaGreat
set_option linter.unusedSimpArgs false
set_option linter.unusedVariables false
namespace Go.Proofs.YtnackipaoepmfaaGreat
open Go Go.RowKit
set_option maxRecDepth 100000
set_option maxHeartbeats 20000000
instance W46 : ∀ (p0 : (List Int)) (p1 : Q5), Ct (Q1j p0 p1) fun res => Z1 Tryz.prog 0o00233 [(.slice 1 (List.map rI p0)), (.agg (W9 p1))] (fun d => d = (eI res)) :=
 au Tryz.func155 Q1j.eq_1 .z
end Go.Proofs.YtnackipaoepmfaaGreat
set_option linter.unusedSimpArgs false
set_option linter.unusedVariables false
namespace Go.Proofs.YtnackipaoepmfaaGreat
open Go Go.RowKit
set_option maxRecDepth 100000
set_option maxHeartbeats 20000000
instance W6h : ∀ (p0 : (List Q3)) (p1 : (List Int)) (p2 : Q5) (p3 : Int), Ct (Q3q p0 p1 p2 p3) fun res => Z1 Tryz.prog 0o00232 [(.slice 2 (List.map V0 p0)), (.slice 1 (List.map rI p1)), (.agg (W9 p2)), (eI p3)] (fun d => d = (eI res)) :=
 au Tryz.func154 Q3q.eq_1 (.o (.o (.o (.o (.o (.ls 16 (.f [10] [] [1, 9, 10, 11] [] (fun (k92 : Nat) (s88 : Int) => [(10, eI s88), (11, eI (k92 : Int))]) (fun k92 s88 => []) (fun k92 s88 => .o (.j 6 0 [1, 9, 10, 11] [] (fun (s101 : Int) => [(10, eI s101)]) (fun _ => []) .z (fun _ => .z))) (fun s96 => .z))))))))
end Go.Proofs.YtnackipaoepmfaaGreat
set_option linter.unusedSimpArgs false
set_option linter.unusedVariables false
namespace Go.Proofs.YtnackipaoepmfaaGreat
open Go Go.RowKit
set_option maxRecDepth 100000
set_option maxHeartbeats 20000000
instance W6c : ∀ (n : Nat) (p0 : Z8) (p1 : (List Q3)) (p2 : (List Int)) (p3 : Q5) (p4 : Int), Ct (Q2s n p0 p1 p2 p3 p4) fun res => J6 Tryz.prog 0o00106 [⟨2, [(Y1 p0)], 0, 0x00c4⟩] [.ptr 2 0 0 0, (.slice 2 (List.map V0 p1)), (.slice 1 (List.map rI p2)), (.agg (W9 p3)), (eI p4)] (fun H d => H = [some ⟨2, [(Y1 res.2)], 0, 0x00c4⟩] ∧ d = (.agg (W2 res.1))) :=
 ar (au Tryz.func70 Q2s.eq_2 (.o (.o (.o (.o (.o (.o (.o (.i .z (.o (.ls 26 (.f [0, 1, 2, 4, 8, 10, 12] [0, 1, 9, 73] [0, 1, 2, 4, 8, 10, 11, 12, 13] [0, 1, 9, 73] (fun (k216 : Nat) (s212 : (List Int)) => [(12, .sl 1 73 (s212).length), (13, eI (k216 : Int))]) (fun k216 s212 => [(73, some ⟨1, (List.map rI s212), 0, 0x0003⟩)]) (fun k216 s212 => .o (.j 8 0 [0, 1, 2, 4, 8, 10, 11, 12, 13] [0, 1, 2, 3] (fun (s237 : (List Int)) => [(12, .sl 1 3 (s237).length)]) (fun s237 => [(3, some ⟨1, (List.map rI s237), 0, 0x0003⟩)]) (.g [0, 1, 2, 4, 8, 10, 11, 12, 13] [0, 1, 2, 3] [] [] (.o (.d [0, 1, 2, 3, 4, 5, 6, 7, 8] [1] [] .z))) (fun _ => .z))) (fun s220 => .o (.b fun (x257 : Int) => .o (.pC 68 2 3 0x002f (.ls 75 (.f [10, 15] [0, 2, 68, 140] [0, 1, 2, 4, 10, 15, 16, 17] [0, 2, 68, 140] (fun (k316 : Nat) (s312 : Z8 × (List Q2)) => [(17, eI (k316 : Int))]) (fun k316 s312 => [(0, some ⟨2, [(Y1 s312.1)], 0, 0x00c4⟩), (1000000068, some ⟨3, [[(eI x257), (eI 0), (.sl 3 140 (s312.2).length)]], 0, 0x002f⟩), (140, some ⟨3, (List.map W2 s312.2), 0, 0x002f⟩)]) (fun k316 s312 => .o (.g [0, 1, 2, 4, 10, 15, 16, 17] [0, 1, 2, 3] [] [(1000000002, some ⟨3, [[(eI x257), (eI 0), (.sl 3 3 (s312.2).length)]], 0, 0x002f⟩)] (.o (.o (.d [0, 1, 2, 3, 4, 5, 6, 7, 8, 9, 10, 11, 12, 13, 14, 15] [2] [96] .z))))) (fun s320 => .pF 3 .z))))))))))))))))))
end Go.Proofs.YtnackipaoepmfaaGreat
set_option linter.unusedSimpArgs false
set_option linter.unusedVariables false
namespace Go.Proofs.YtnackipaoepmfaaGreat
open Go Go.RowKit
set_option maxRecDepth 100000
set_option maxHeartbeats 20000000
instance W44 : ∀ (n : Nat) (p0 : (List Q3)), Ct (Q0g n p0) fun res => Z1 Tryz.prog 0o00107 [(.slice 2 (List.map V0 p0))] (fun d => d = (.slice 1 (List.map rI res))) :=
 au Tryz.func71 Q0g.eq_1 (.o (.o (.o (.w [3] [32] [0, 3, 4] [32] (fun (s7767 : (List Int) × Int) => [(3, .sl 1 32 (s7767.1).length), (4, eI s7767.2)]) (fun s7767 => [(32, some ⟨1, (List.map rI s7767.1), 0, 0x0003⟩)]) (fun s7767 => .i (.w [0, 3, 4] [0] [0, 3, 4, 5] [0] (fun (s9063 : (List Int) × Int) => [(3, .sl 1 0 (s9063.1).length), (5, eI s9063.2)]) (fun s9063 => [(0, some ⟨1, (List.map rI s9063.1), 0, 0x0003⟩)]) (fun s9063 => .i (.o (.ls 33 (.f [0, 3, 4, 5] [0] [0, 3, 4, 5, 6, 7, 8] [0, 73] (fun (k9286 : Nat) (s9282 : (List Int)) => [(3, .sl 1 0 (s9282).length), (8, eI (k9286 : Int))]) (fun k9286 s9282 => [(0, some ⟨1, (List.map rI s9282), 0, 0x0003⟩)]) (fun k9286 s9282 => .o (.j 13 0 [0, 3, 4, 5, 6, 7, 8] [0, 1] (fun (s9307 : (List Int)) => [(3, .sl 1 0 (s9307).length)]) (fun s9307 => [(0, some ⟨1, (List.map rI s9307), 0, 0x0003⟩)]) (.g [0, 3, 4, 5, 6, 7, 8] [0, 1] [] [] (.o (.d [0, 1, 2, 3, 4, 5, 6, 7, 8] [1] [] .z))) (fun _ => .z))) (fun s9290 => .z)))) .z) (fun s9071 => .z)) .z) (fun s7775 => .z)))))
end Go.Proofs.YtnackipaoepmfaaGreat
set_option linter.unusedSimpArgs false
set_option linter.unusedVariables false
namespace Go.Proofs.YtnackipaoepmfaaGreat
open Go Go.RowKit
set_option maxRecDepth 100000
set_option maxHeartbeats 20000000
instance W6j : ∀ (p0 : (List ByteArray)) (p1 : ByteArray), Ct (Q96 p0 p1) fun res => Z1 Tryz.prog 0o00572 [(.slice 1 (List.map rS p0)), (eS p1)] (fun d => d = (eI res)) :=
 au Tryz.func378 Q96.eq_1 (.o (.o (.i .z (.ls 0 (.f [] [] [0, 1, 5] [] (fun (k46 : Nat) (s42 : Unit) => [(5, eI (k46 : Int))]) (fun k46 s42 => []) (fun k46 s42 => .z) (fun s50 => .z))))))
end Go.Proofs.YtnackipaoepmfaaGreat
set_option linter.unusedSimpArgs false
set_option linter.unusedVariables false
namespace Go.Proofs.YtnackipaoepmfaaGreat
open Go Go.RowKit
set_option maxRecDepth 100000
set_option maxHeartbeats 20000000
instance X6l : ∀ (p0 : (List ByteArray)) (p1 : ByteArray), Ct (Q60 p0 p1) fun res => Z1 Tryz.prog 0o00556 [(.slice 1 (List.map rS p0)), (eS p1)] (fun d => d = (.agg (W9 res))) :=
 au Tryz.func366 Q60.eq_1 (.o (.o (.i .z (.o (.b fun (r4 : (Int)) => .j 4 0 [4, 5] [0, 64] (fun (s18 : Int) => []) (fun s18 => [(64, some ⟨2, [[(eI r4), (eI s18)]], 0, 0x0019⟩)]) .z (fun _ => .z))))))
end Go.Proofs.YtnackipaoepmfaaGreat
set_option linter.unusedSimpArgs false
set_option linter.unusedVariables false
namespace Go.Proofs.YtnackipaoepmfaaGreat
open Go Go.RowKit
set_option maxRecDepth 100000
set_option maxHeartbeats 20000000
instance W6o : ∀ (n : Nat) (p0 : ByteArray) (p1 : Int), Ct (Q2t n p0 p1) fun res => Z1 Tryz.prog 0o00517 [(eS p0), (.val (.int .u8 p1))] (fun d => d = (.slice 1 (List.map rS res))) :=
 au Tryz.func335 Q2t.eq_1 (.o (.o (.o (.w [5] [8] [0, 1, 5, 6, 7] [8] (fun (s203 : (List ByteArray) × Int × Int) => [(5, .sl 1 8 (s203.1).length), (6, eI s203.2.1), (7, eI s203.2.2)]) (fun s203 => [(8, some ⟨1, (List.map rS s203.1), 0, 0x0009⟩)]) (fun s203 => .i (.j 6 0 [0, 1, 5, 6, 7] [0] (fun (s230 : (List ByteArray) × Int) => [(5, .sl 1 0 (s230.1).length), (6, eI s230.2)]) (fun s230 => [(0, some ⟨1, (List.map rS s230.1), 0, 0x0009⟩)]) .z (fun _ => .z)) .z) (fun s211 => .z)))))
end Go.Proofs.YtnackipaoepmfaaGreat
set_option linter.unusedSimpArgs false
set_option linter.unusedVariables false
namespace Go.Proofs.YtnackipaoepmfaaGreat
open Go Go.RowKit
set_option maxRecDepth 100000
set_option maxHeartbeats 20000000
instance X6m : ∀ (n : Nat) (p0 : (List ByteArray)) (p1 : ByteArray), Ct (Q61 n p0 p1) fun res => Z1 Tryz.prog 0o00520 [(.slice 1 (List.map rS p0)), (eS p1)] (fun d => d = (.agg (Q5u res))) :=
 au Tryz.func336 Q61.eq_1 (.o (.o (.o (.j 2 0 [0, 1, 4, 5] [0, 16] (fun (s13 : ByteArray × Int) => [(1, eS s13.1)]) (fun s13 => [(16, some ⟨3, [[(eS ByteArray.empty), .nil, (eI s13.2)]], 0, 0x0116⟩)]) .z (fun s13 => .o (.b fun (x29 : ByteArray) => .i .z (.o (.i .z (.g [0, 4, 5, 6] [0, 1] [] [] (.o (.o (.d [0, 1, 2, 3, 4, 5, 6, 7, 8, 9, 10] [] [] (.pC 1 1 2 0x0019 (.ls 60 (.f [4, 5] [0, 1, 18] [0, 4, 5, 7, 8] [0, 1, 18] (fun (k137 : Nat) (s133 : (List Q5)) => [(8, eI (k137 : Int))]) (fun k137 s133 => [(1000000001, some ⟨3, [[(eS x29), (.sl 2 18 (s133).length), (eI s13.2)]], 0, 0x0116⟩), (18, some ⟨2, (List.map W9 s133), 0, 0x0019⟩)]) (fun k137 s133 => .o (.i (.g [0, 4, 5, 7, 8] [0, 1, 2] [] [(1000000001, some ⟨3, [[(eS x29), (.sl 2 2 (s133).length), (eI s13.2)]], 0, 0x0116⟩)] (.o (.o (.d [0, 1, 2, 3, 4, 5, 6, 7, 8, 9, 10, 11] [1] [81] .z)))) .z)) (fun s141 => .z))))))))))))))))
end Go.Proofs.YtnackipaoepmfaaGreat
set_option linter.unusedSimpArgs false
set_option linter.unusedVariables false
namespace Go.Proofs.YtnackipaoepmfaaGreat
open Go Go.RowKit
set_option maxRecDepth 100000
set_option maxHeartbeats 20000000
instance W42 : ∀ (n : Nat) (p0 : (List Q3)) (p1 : Int) (p2 : Int), Ct (Q8c n p0 p1 p2) fun res => Z1 Tryz.prog 0o00470 [(.slice 2 (List.map V0 p0)), (eI p1), (eI p2)] (fun d => d = (eB res)) :=
 au Tryz.func312 Q8c.eq_1 (.o (.o (.o (.o (.w [] [] [0, 1, 2, 7] [] (fun (s3024 : Int) => [(7, eI s3024)]) (fun s3024 => []) (fun s3024 => .i (.j 4 1 [0, 1, 2, 7] [] (fun (s3346 : Unit) => []) (fun _ => []) (.g [0, 1, 2, 7] [] [] [] (.i (.o (.o (.d [0, 1, 2, 3, 4, 5, 6, 7, 8, 9, 10, 11, 12, 13, 14, 15] [] [] .z))) (.d [0, 1, 2, 3, 4, 5, 6, 7, 8, 9, 10, 11, 12, 13, 14, 15] [] [] .z))) (fun s3346 => .b fun (x3485 : Q3) => .le 0 1 3 Q5u x3485.ctors x3485 (.f [0, 1, 2, 7] [] [0, 1, 2, 7, 8] [] (fun (k3592 : Nat) (s3588 : Unit) => [(8, eI (k3592 : Int))]) (fun k3592 s3588 => []) (fun k3592 s3588 => .o (.j 7 0 [0, 1, 2, 7, 8] [] (fun (s3602 : Unit) => []) (fun _ => []) .z (fun s3602 => .j 9 0 [0, 1, 2, 7, 8] [] (fun (s3621 : Unit) => []) (fun _ => []) (.g [0, 1, 2, 7, 8] [] [] [] (.o (.i (.o (.d [0, 1, 2, 3, 4, 5, 6, 7, 8, 9, 10, 11, 12, 13, 14, 15, 16, 17, 18, 19, 20, 21, 22, 23, 24, 25, 26, 27, 28] [] [] .z)) (.d [0, 1, 2, 3, 4, 5, 6, 7, 8, 9, 10, 11, 12, 13, 14, 15, 16, 17, 18, 19, 20, 21, 22, 23, 24, 25, 26, 27, 28] [] [] .z)))) (fun _ => .z)))) (fun s3596 => .z)))) .z) (fun s3032 => .z))))))
end Go.Proofs.YtnackipaoepmfaaGreat
set_option linter.unusedSimpArgs false
set_option linter.unusedVariables false
namespace Go.Proofs.YtnackipaoepmfaaGreat
open Go Go.RowKit
set_option maxRecDepth 100000
set_option maxHeartbeats 20000000
instance W8i : ∀ (p0 : Int), Ct (Q81 p0) fun res => Z1 Tryz.prog 0o00536 [(.val (.int .u8 p0))] (fun d => d = (eB res)) :=
 au Tryz.func350 Q81.eq_1 .z
end Go.Proofs.YtnackipaoepmfaaGreat
set_option linter.unusedSimpArgs false
set_option linter.unusedVariables false
namespace Go.Proofs.YtnackipaoepmfaaGreat
open Go Go.RowKit
set_option maxRecDepth 100000
set_option maxHeartbeats 20000000
instance W6k : ∀ (p0 : ByteArray), Ct (Q97 p0) fun res => Z1 Tryz.prog 0o00466 [(eS p0)] (fun d => d = (eB res)) :=
 au Tryz.func310 Q97.eq_1 .z
end Go.Proofs.YtnackipaoepmfaaGreat
set_option linter.unusedSimpArgs false
set_option linter.unusedVariables false
namespace Go.Proofs.YtnackipaoepmfaaGreat
open Go Go.RowKit
set_option maxRecDepth 100000
set_option maxHeartbeats 20000000
instance W8j : ∀ (p0 : Int) (p1 : Q5), Ct (Q82 p0 p1) fun res => Z1 Tryz.prog 0o00471 [(eI p0), (.agg (W9 p1))] (fun d => d = (eB res)) :=
 au Tryz.func313 Q82.eq_1 .z
end Go.Proofs.YtnackipaoepmfaaGreat
set_option linter.unusedSimpArgs false
set_option linter.unusedVariables false
namespace Go.Proofs.YtnackipaoepmfaaGreat
open Go Go.RowKit
set_option maxRecDepth 100000
set_option maxHeartbeats 20000000
instance X9t : ∀ (n : Nat) (p0 : ByteArray), Ct (Q6v n p0) fun res => Z1 Tryz.prog 0o00537 [(eS p0)] (fun d => d = (eB res)) :=
 au Tryz.func351 Q6v.eq_1 (.o (.o (.i .z (.i .z (.o (.o (.i .z (.w [] [] [0, 3] [] (fun (s132 : Int) => [(3, eI s132)]) (fun s132 => []) (fun s132 => .z) (fun s140 => .z)))))))))
end Go.Proofs.YtnackipaoepmfaaGreat
set_option linter.unusedSimpArgs false
set_option linter.unusedVariables false
namespace Go.Proofs.YtnackipaoepmfaaGreat
open Go Go.RowKit
set_option maxRecDepth 100000
set_option maxHeartbeats 20000000
instance W6l : ∀ (n : Nat) (p0 : Int) (p1 : Q6r), Ct (Q98 n p0 p1) fun res => Z1 Tryz.prog 0o00467 [(eI p0), (.agg (Q5u p1))] (fun d => d = (eB res)) :=
 au Tryz.func311 Q98.eq_1 (.o (.o (.o (.o (.i .z (.i .z (.i .z (.i .z (.ls 12 (.f [] [] [0, 3, 5] [0] (fun (k82 : Nat) (s78 : Unit) => [(5, eI (k82 : Int))]) (fun k82 s78 => []) (fun k82 s78 => .z) (fun s86 => .z)))))))))))
end Go.Proofs.YtnackipaoepmfaaGreat
set_option linter.unusedSimpArgs false
set_option linter.unusedVariables false
namespace Go.Proofs.YtnackipaoepmfaaGreat
open Go Go.RowKit
set_option maxRecDepth 100000
set_option maxHeartbeats 20000000
instance X8h : ∀ (n : Nat) (p0 : (List Q3)), Ct (Q25 n p0) fun res => Z1 Tryz.prog 0o00400 [(.slice 2 (List.map V0 p0))] (fun d => d = (eB res)) :=
 au Tryz.func256 Q25.eq_1 (.o (.o (.i .z (.ls 0 (.f [] [] [0, 3] [] (fun (k1226 : Nat) (s1222 : Unit) => [(3, eI (k1226 : Int))]) (fun k1226 s1222 => []) (fun k1226 s1222 => .o (.o (.i .z (.i .z (.i .z (.ls 26 (.f [0, 3] [] [0, 3, 4] [] (fun (k1434 : Nat) (s1430 : Unit) => [(4, eI (k1434 : Int))]) (fun k1434 s1430 => []) (fun k1434 s1430 => .z) (fun s1438 => .z)))))))) (fun s1230 => .z))))))
end Go.Proofs.YtnackipaoepmfaaGreat
set_option linter.unusedSimpArgs false
set_option linter.unusedVariables false
namespace Go.Proofs.YtnackipaoepmfaaGreat
open Go Go.RowKit
set_option maxRecDepth 100000
set_option maxHeartbeats 20000000
instance W6n : ∀ (n : Nat) (p0 : Int), Ct (Q62 n p0) fun res => Z1 Tryz.prog 0o00574 [(eI p0)] (fun d => d = (eS res)) :=
 ar (au Tryz.func380 Q62.eq_2 (.o (.o (.o (.i .z (.i .z (.w [0, 3] [] [0, 3] [] (fun (s18 : Int × ByteArray) => [(0, eI s18.1), (3, eS s18.2)]) (fun s18 => []) (fun s18 => .z) (fun s26 => .z))))))))
end Go.Proofs.YtnackipaoepmfaaGreat
set_option linter.unusedSimpArgs false
set_option linter.unusedVariables false
namespace Go.Proofs.YtnackipaoepmfaaGreat
open Go Go.RowKit
set_option maxRecDepth 100000
set_option maxHeartbeats 20000000
instance W45 : ∀ (n : Nat) (p0 : Int), Ct (Q8d n p0) fun res => Z1 Tryz.prog 0o00600 [(eI p0)] (fun d => d = (eS res)) :=
 au Tryz.func384 Q8d.eq_1 .z
end Go.Proofs.YtnackipaoepmfaaGreat
set_option linter.unusedSimpArgs false
set_option linter.unusedVariables false
namespace Go.Proofs.YtnackipaoepmfaaGreat
open Go Go.RowKit
set_option maxRecDepth 100000
set_option maxHeartbeats 20000000
instance W6e : ∀ (n : Nat) (p0 : (List Q3)) (p1 : Q5), Ct (Q92 n p0 p1) fun res => Z1 Tryz.prog 0o00573 [(.slice 2 (List.map V0 p0)), (.agg (W9 p1))] (fun d => d = (eS res)) :=
 au Tryz.func379 Q92.eq_1 (.o (.o (.o (.i .z (.g [0, 3] [0] [] [] (.o (.o (.o (.d [0, 1, 2, 3, 4, 5, 6, 7, 8, 9, 10] [0] [] .z)))))))))
end Go.Proofs.YtnackipaoepmfaaGreat
set_option linter.unusedSimpArgs false
set_option linter.unusedVariables false
namespace Go.Proofs.YtnackipaoepmfaaGreat
open Go Go.RowKit
set_option maxRecDepth 100000
set_option maxHeartbeats 20000000
instance X8f : ∀ (n : Nat) (p0 : (List Q3)) (p1 : Q6r), Ct (Q6d n p0 p1) fun res => Z1 Tryz.prog 0o00557 [(.slice 2 (List.map V0 p0)), (.agg (Q5u p1))] (fun d => d = (eS res)) :=
 au Tryz.func367 Q6d.eq_1 (.o (.o (.b fun (p1 : Q6r) => .lc 0 1 2 W9 p1.args (.f [3, 5] [0] [0, 3, 5, 6] [0] (fun (k146 : Nat) (s142 : ByteArray) => [(5, eS s142), (6, eI (k146 : Int))]) (fun k146 s142 => []) (fun k146 s142 => .o (.j 5 1 [0, 3, 5, 6] [0] (fun (s165 : ByteArray) => [(5, eS s165)]) (fun _ => []) .z (fun _ => .z))) (fun s150 => .j 9 0 [3, 5] [0] (fun (s175 : ByteArray) => [(5, eS s175)]) (fun _ => []) .z (fun s175 => .j 11 0 [5] [] (fun (s184 : ByteArray) => [(5, eS s184)]) (fun _ => []) .z (fun _ => .z)))))))
end Go.Proofs.YtnackipaoepmfaaGreat
