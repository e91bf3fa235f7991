import Derived.Test.YtnackipaoepmfaaGreatJMir
import Derived.Test.YtnackipaoepmfaaGreatJAuto
set_option linter.unusedSimpArgs false
set_option linter.unusedVariables false
set_option linter.unusedSimpArgs false
set_option linter.unusedVariables false
namespace Go.Proofs.YtnackipaoepmfaaGreat
open Go Go.RowKit
set_option maxRecDepth 100000
set_option maxHeartbeats 20000000
instance W49 : ∀ (p0 : (List Int)), Ct (Q40 p0) fun res => Q0u Tryz.prog 0o00103 [] [(.slice 1 (List.map (rK .u8) p0))] (fun H d => H = [some ⟨2, [(Y3 res)], 0, 0x00c4⟩] ∧ d = .ptr 2 0 0 0) :=
 au Tryz.func67 Q40.eq_1 (.o (.j 1 0 [0] [] (fun (s3 : (List Int)) => [(0, .slice 1 (List.map (rK .u8) s3))]) (fun _ => []) .z (fun _ => .z)))
end Go.Proofs.YtnackipaoepmfaaGreat
set_option linter.unusedSimpArgs false
set_option linter.unusedVariables false
namespace Go.Proofs.YtnackipaoepmfaaGreat
open Go Go.RowKit
set_option maxRecDepth 100000
set_option maxHeartbeats 20000000
instance W5v : ∀ (p0 : Int), Ct (Q5t p0) fun res => Q9 Tryz.prog 0o00540 [(eI p0)] (fun d => d = (eI res)) :=
 au Tryz.func352 Q5t.eq_1 .z
end Go.Proofs.YtnackipaoepmfaaGreat
set_option linter.unusedSimpArgs false
set_option linter.unusedVariables false
namespace Go.Proofs.YtnackipaoepmfaaGreat
open Go Go.RowKit
set_option maxRecDepth 100000
set_option maxHeartbeats 20000000
instance W5w : ∀ (p0 : (List Q7)) (p1 : Int), Ct (Q2r p0 p1) fun res => Q9 Tryz.prog 0o00472 [(.slice 3 (List.map V0 p0)), (eI p1)] (fun d => d = (eI res)) :=
 au Tryz.func314 Q2r.eq_1 (.o (.o (.ls 0 (.f [] [] [0, 1, 5] [] (fun (k44 : Nat) (s40 : Unit) => [(5, eI (k44 : Int))]) (fun k44 s40 => []) (fun k44 s40 => .z) (fun s48 => .z)))))
end Go.Proofs.YtnackipaoepmfaaGreat
set_option linter.unusedSimpArgs false
set_option linter.unusedVariables false
namespace Go.Proofs.YtnackipaoepmfaaGreat
open Go Go.RowKit
set_option maxRecDepth 100000
set_option maxHeartbeats 20000000
instance W85 : ∀ (p0 : Int), Ct (Q7s p0) fun res => Q9 Tryz.prog 0o00536 [(.val (.int .u8 p0))] (fun d => d = (eB res)) :=
 au Tryz.func350 Q7s.eq_1 .z
end Go.Proofs.YtnackipaoepmfaaGreat
set_option linter.unusedSimpArgs false
set_option linter.unusedVariables false
namespace Go.Proofs.YtnackipaoepmfaaGreat
open Go Go.RowKit
set_option maxRecDepth 100000
set_option maxHeartbeats 20000000
instance W5y : ∀ (n : Nat) (p0 : Q0), Ct (Q21 n p0) fun res => Q9 Tryz.prog 0o00161 [(.agg (Q1 p0))] (fun d => d = (.agg (Q1 res))) :=
 ar (au Tryz.func113 Q21.eq_2 (.o (.o (.b fun (p0 : Q0) => .pC 24 5 6 0x0033 (.lc 0 5 6 Q1 p0.kids (.f [2, 3] [8, 24, 64] [1, 2, 3, 4] [0, 8, 24, 64] (fun (k56 : Nat) (s52 : (List Q0)) => [(4, eI (k56 : Int))]) (fun k56 s52 => [(1000000024, some ⟨6, [[(eI p0.op), (eI p0.ctor), (eI p0.n), (eI p0.m), (eI p0.var), (.sl 6 64 (s52).length)]], 0, 0x0033⟩), (64, some ⟨6, (List.map Q1 s52), 0, 0x0033⟩)]) (fun k56 s52 => .o (.g [1, 2, 3, 4] [0, 1, 2, 3] [] [(1000000002, some ⟨6, [[(eI p0.op), (eI p0.ctor), (eI p0.n), (eI p0.m), (eI p0.var), (.sl 6 3 (s52).length)]], 0, 0x0033⟩)] (.o (.o (.d [0, 1, 2, 3, 4, 5, 6, 7, 8, 9, 10, 11] [0, 2] [24] .z))))) (fun s60 => .z)))))))
end Go.Proofs.YtnackipaoepmfaaGreat
set_option linter.unusedSimpArgs false
set_option linter.unusedVariables false
namespace Go.Proofs.YtnackipaoepmfaaGreat
open Go Go.RowKit
set_option maxRecDepth 100000
set_option maxHeartbeats 20000000
instance W6c : ∀ (p0 : Int) (p1 : Int) (p2 : Int), Ct (V3 p0 p1 p2) fun res => Q9 Tryz.prog 0o00123 [(eI p0), (eI p1), (eI p2)] (fun d => d = (eB res)) :=
 au Tryz.func83 V3.eq_1 .z
end Go.Proofs.YtnackipaoepmfaaGreat
set_option linter.unusedSimpArgs false
set_option linter.unusedVariables false
namespace Go.Proofs.YtnackipaoepmfaaGreat
open Go Go.RowKit
set_option maxRecDepth 100000
set_option maxHeartbeats 20000000
instance Z9y : ∀ (p0 : (List Q2)) (p1 : (Q2 → Option Bool)) {p1_f : FuncId} {p1_c : List D} [p1_i : CF1 (fun a0 => (.agg (Z5 a0))) (fun r => (eB r)) p1 p1_f p1_c], Ct (Q3l p0 p1) fun res => Q9 Tryz.prog 0o00407 [(.slice 2 (List.map Z5 p0)), .clos p1_f p1_c] (fun d => d = (eI res)) :=
 au Tryz.func263 Q3l.eq_1 (.o (.o (.o (.o (.o (.ls 0 (.f [] [] [0, 1, 7, 8] [] (fun (k54 : Nat) (s50 : Unit) => [(8, eI (k54 : Int))]) (fun k54 s50 => []) (fun k54 s50 => .z) (fun s58 => .z))))))))
end Go.Proofs.YtnackipaoepmfaaGreat
set_option linter.unusedSimpArgs false
set_option linter.unusedVariables false
namespace Go.Proofs.YtnackipaoepmfaaGreat
open Go Go.RowKit
set_option maxRecDepth 100000
set_option maxHeartbeats 20000000
instance X0t : ∀ (p0 : (List Q7)) (p1 : Q7), Ct (Q2h p0 p1) fun res => Q9 Tryz.prog 0o00523 [(.slice 3 (List.map V0 p0)), (.agg (V0 p1))] (fun d => d = (eI res)) :=
 au Tryz.func339 Q2h.eq_1 (.o (.o (.ls 0 (.f [] [] [0, 3, 7, 8] [0] (fun (k44 : Nat) (s40 : Unit) => [(8, eI (k44 : Int))]) (fun k44 s40 => []) (fun k44 s40 => .o (.g [0, 3, 5, 7, 8] [0] [] [] (.d [0, 1, 2, 3, 4, 5] [0] [] .z))) (fun s48 => .z)))))
end Go.Proofs.YtnackipaoepmfaaGreat
set_option linter.unusedSimpArgs false
set_option linter.unusedVariables false
namespace Go.Proofs.YtnackipaoepmfaaGreat
open Go Go.RowKit
set_option maxRecDepth 100000
set_option maxHeartbeats 20000000
instance W9v : ∀ (p0 : Q0) (p1 : Bool) (p2 : Bool) (p3 : Bool) (p4 : Int), Ct (Q36 p0 p1 p2 p3 p4) fun res => Q9 Tryz.prog 0o00554 [(.agg (Q1 p0)), (eB p1), (eB p2), (eB p3), (eI p4)] (fun d => d = (eB res)) :=
 au Tryz.func364 Q36.eq_1 .z
end Go.Proofs.YtnackipaoepmfaaGreat
set_option linter.unusedSimpArgs false
set_option linter.unusedVariables false
namespace Go.Proofs.YtnackipaoepmfaaGreat
open Go Go.RowKit
set_option maxRecDepth 100000
set_option maxHeartbeats 20000000
instance W6f : ∀ (n : Nat) (p0 : (List Int)), Ct (Q23 n p0) fun res => Q9 Tryz.prog 0o00411 [(.slice 1 (List.map rI p0))] (fun d => d = (.slice 6 (List.map Q1 res))) :=
 au Tryz.func265 Q23.eq_1 (.o (.o (.pN 3 6 0x0033 (.w [3] [24] [0, 3, 4] [24] (fun (s81 : (List Q0) × Int) => [(3, .sl 6 24 (s81.1).length), (4, eI s81.2)]) (fun s81 => [(24, some ⟨6, (List.map Q1 s81.1), 0, 0x0033⟩)]) (fun s81 => .i (.j 5 0 [0, 3, 4] [0] (fun (s96 : (List Q0)) => [(3, .sl 6 0 (s96).length)]) (fun s96 => [(0, some ⟨6, (List.map Q1 s96), 0, 0x0033⟩)]) (.g [0, 3, 4] [0] [] [] (.o (.o (.d [0, 1, 2, 3, 4, 5, 6, 7, 8, 9] [] [] (.i (.g [0, 3, 4] [0] [] [] (.o (.d [0, 1, 2, 3, 4, 5, 6, 7, 8, 9, 10, 11, 12, 13] [] [] .z))) .z))))) (fun _ => .z)) .z) (fun s89 => .z)))))
end Go.Proofs.YtnackipaoepmfaaGreat
set_option linter.unusedSimpArgs false
set_option linter.unusedVariables false
namespace Go.Proofs.YtnackipaoepmfaaGreat
open Go Go.RowKit
set_option maxRecDepth 100000
set_option maxHeartbeats 20000000
instance Z1z : ∀ (n : Nat) (p0 : (List W4)) (p1 : Int) (p2 : Int) (p3 : (W4 → W4 → Option Int)) {p3_f : FuncId} {p3_c : List D} [p3_i : CF2 (fun a0 => (.agg (Q1l a0))) (fun a1 => (.agg (Q1l a1))) (fun r => (eI r)) p3 p3_f p3_c], Ct (Y1 n p0 p1 p2 p3) fun res => Q0u Tryz.prog 0o00524 [⟨4, List.map Q1l p0, 0, 0x007e⟩] [.sl 4 0 p0.length, (eI p1), (eI p2), .clos p3_f p3_c] (fun H d => H = [some ⟨4, List.map Q1l res, 0, 0x007e⟩] ∧ d = .tup []) :=
 au Tryz.func340 Y1.eq_1 (.o (.o (.o (.o (.o (.o (.o (.o (.w [] [0] [0, 1, 2, 3, 8] [0] (fun (s464 : (List W4) × Int) => [(0, .sl 4 0 (s464.1).length), (8, eI s464.2)]) (fun s464 => [(0, some ⟨4, (List.map Q1l s464.1), 0, 0x007e⟩)]) (fun s464 => .i (.w [0, 1, 2, 3, 8] [0] [0, 1, 2, 3, 8, 9] [0] (fun (s660 : (List W4) × Int) => [(0, .sl 4 0 (s660.1).length), (9, eI s660.2)]) (fun s660 => [(0, some ⟨4, (List.map Q1l s660.1), 0, 0x007e⟩)]) (fun s660 => .g [0, 1, 2, 3, 8, 9] [0] [] [] (.i (.o (.o (.o (.d [0, 1, 2, 3, 4, 5, 6, 7, 8, 9, 10, 11, 12, 13, 14, 15, 16] [0] [] (.i (.g [0, 1, 2, 3, 8, 9] [0] [] [] (.o (.o (.o (.d [0, 1, 2, 3, 4, 5, 6, 7, 8, 9, 10, 11, 12, 13, 14, 15, 16, 17] [0] [51, 52] .z))))) .z))))) (.d [0, 1, 2, 3, 4, 5, 6, 7, 8, 9, 10, 11, 12, 13, 14, 15, 16] [] [] .z))) (fun s668 => .z)) .z) (fun s472 => .z))))))))))
end Go.Proofs.YtnackipaoepmfaaGreat
set_option linter.unusedSimpArgs false
set_option linter.unusedVariables false
namespace Go.Proofs.YtnackipaoepmfaaGreat
open Go Go.RowKit
set_option maxRecDepth 100000
set_option maxHeartbeats 20000000
instance W2k : ∀ (p0 : Int), Ct (Q4g p0) fun res => Q9 Tryz.prog 0o00465 [(eI p0)] (fun d => d = (eB res)) :=
 au Tryz.func309 Q4g.eq_1 .z
end Go.Proofs.YtnackipaoepmfaaGreat
set_option linter.unusedSimpArgs false
set_option linter.unusedVariables false
namespace Go.Proofs.YtnackipaoepmfaaGreat
open Go Go.RowKit
set_option maxRecDepth 100000
set_option maxHeartbeats 20000000
instance Z90 : ∀ (p0 : (List Q5)) (p1 : (List Q5)) (p2 : (Q5 → Q5 → Option Bool)) {p2_f : FuncId} {p2_c : List D} [p2_i : CF2 (fun a0 => (.agg (V2 a0))) (fun a1 => (.agg (V2 a1))) (fun r => (eB r)) p2 p2_f p2_c], Ct (Q06 p0 p1 p2) fun res => Q9 Tryz.prog 0o00272 [(.slice 3 (List.map V2 p0)), (.slice 3 (List.map V2 p1)), .clos p2_f p2_c] (fun d => d = (eB res)) :=
 au Tryz.func186 Q06.eq_1 (.o (.o (.o (.o (.o (.o (.i .z (.ls 0 (.f [] [] [1, 2, 15, 16, 17] [] (fun (k66 : Nat) (s62 : Unit) => [(17, eI (k66 : Int))]) (fun k66 s62 => []) (fun k66 s62 => .z) (fun s70 => .z))))))))))
end Go.Proofs.YtnackipaoepmfaaGreat
