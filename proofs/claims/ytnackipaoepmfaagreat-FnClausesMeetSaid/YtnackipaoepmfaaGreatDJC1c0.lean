import Derived.Test.YtnackipaoepmfaaGreatDJMir
import Derived.Test.YtnackipaoepmfaaGreatDJAuto
import Derived.Test.YtnackipaoepmfaaGreatDJC0b0
import Derived.Test.YtnackipaoepmfaaGreatDJC0c0
import Derived.Test.YtnackipaoepmfaaGreatDJC0a0
import Derived.Test.YtnackipaoepmfaaGreatDJC0d0
set_option linter.unusedSimpArgs false
set_option linter.unusedVariables false
set_option linter.unusedSimpArgs false
set_option linter.unusedVariables false
namespace Go.Proofs.YtnackipaoepmfaaGreat
open Go Go.RowKit
set_option maxRecDepth 100000
set_option maxHeartbeats 20000000
instance W50 : ∀ (p0 : (List Q3)) (p1 : Q2), Ct (Q5o p0 p1) fun res => Q9 Tryz.prog 0o00253 [(.slice 2 (List.map Z6 p0)), (.agg (Z2 p1))] (fun d => d = (eB res)) :=
 au Tryz.func171 Q5o.eq_1 .z
end Go.Proofs.YtnackipaoepmfaaGreat
set_option linter.unusedSimpArgs false
set_option linter.unusedVariables false
namespace Go.Proofs.YtnackipaoepmfaaGreat
open Go Go.RowKit
set_option maxRecDepth 100000
set_option maxHeartbeats 20000000
instance Z4q : ∀ (p0 : (List Z5)) (p1 : (Z5 → Option Bool)) {p1_f : FuncId} {p1_c : List D} [p1_i : CF1 (fun a0 => (.agg (Z8 a0))) (fun r => (eB r)) p1 p1_f p1_c], Ct (Q0p p0 p1) fun res => Q9 Tryz.prog 0o00221 [(.slice 9 (List.map Z8 p0)), .clos p1_f p1_c] (fun d => d = (eB res)) :=
 au Tryz.func145 Q0p.eq_1 .z
end Go.Proofs.YtnackipaoepmfaaGreat
set_option linter.unusedSimpArgs false
set_option linter.unusedVariables false
namespace Go.Proofs.YtnackipaoepmfaaGreat
open Go Go.RowKit
set_option maxRecDepth 100000
set_option maxHeartbeats 20000000
instance W12 : ∀ (p0 : Int), Ct (Q5n p0) fun res => Q9 Tryz.prog 0o00464 [(.val (.int .u64 p0))] (fun d => d = (eI res)) :=
 au Tryz.func308 Q5n.eq_1 .z
end Go.Proofs.YtnackipaoepmfaaGreat
set_option linter.unusedSimpArgs false
set_option linter.unusedVariables false
namespace Go.Proofs.YtnackipaoepmfaaGreat
open Go Go.RowKit
set_option maxRecDepth 100000
set_option maxHeartbeats 20000000
instance W4h : ∀ (n : Nat) (p0 : X0) (p1 : Q0) (p2 : Int), Ct (Q1y n p0 p1 p2) fun res => Q1d Tryz.prog 0o00351 [⟨2, [(Q08 p0)], 0, 0x00c4⟩] [.ptr 2 0 0 0, (.agg (Q1 p1)), (eI p2)] (fun H d => H = [some ⟨2, [(Q08 res.2.2)], 0, 0x00c4⟩] ∧ d = .tup [(.agg (Q1 res.1)), (eI res.2.1)]) :=
 ar (au Tryz.func233 Q1y.eq_2 (.o (.o (.o (.b fun (p1 : Q0) => .o (.i .z (.i .z (.i .z (.j 3 0 [0, 2, 4, 6] [0, 1, 9] (fun (s25 : X0) => []) (fun s25 => [(0, some ⟨2, [(Q08 s25)], 0, 0x00c4⟩)]) .z (fun s25 => .pC 11 5 6 0x0033 (.lc 1 5 6 Q1 p1.kids (.f [0, 6, 8, 9] [0, 2, 11, 67] [0, 4, 6, 8, 9, 10] [0, 1, 2, 11, 67] (fun (k95 : Nat) (s91 : X0 × (List Q0) × Int) => [(9, eI s91.2.2), (10, eI (k95 : Int))]) (fun k95 s91 => [(0, some ⟨2, [(Q08 s91.1)], 0, 0x00c4⟩), (1000000011, some ⟨6, [[(eI p1.op), (eI p1.ctor), (eI p1.n), (eI p1.m), (eI p1.var), (.sl 6 67 (s91.2.1).length)]], 0, 0x0033⟩), (67, some ⟨6, (List.map Q1 s91.2.1), 0, 0x0033⟩)]) (fun k95 s91 => .z) (fun s99 => .j 14 0 [6, 8, 9] [0, 1, 2, 3] (fun (s112 : X0) => []) (fun s112 => [(0, some ⟨2, [(Q08 s112)], 0, 0x00c4⟩), (1000000002, some ⟨6, [[(eI p1.op), (eI p1.ctor), (eI p1.n), (eI p1.m), (eI p1.var), (.sl 6 3 (s99.2.1).length)]], 0, 0x0033⟩)]) (.i (.o (.i (.pF 3 (.pF 76 .z)) .z)) .z) (fun _ => .pF 3 .z))))))))))))))
end Go.Proofs.YtnackipaoepmfaaGreat
set_option linter.unusedSimpArgs false
set_option linter.unusedVariables false
namespace Go.Proofs.YtnackipaoepmfaaGreat
open Go Go.RowKit
set_option maxRecDepth 100000
set_option maxHeartbeats 20000000
instance X8o : ∀ (p0 : X0) (p1 : (List Int)), Ct (Y6 p0 p1) fun res => Q1d Tryz.prog 0o00144 [⟨2, [(Q08 p0)], 0, 0x00c4⟩] [.ptr 2 0 0 0, (.slice 1 (List.map rI p1))] (fun H d => H = [some ⟨2, [(Q08 res.2)], 0, 0x00c4⟩] ∧ d = (eI res.1)) :=
 au Tryz.func100 Y6.eq_1 .z
end Go.Proofs.YtnackipaoepmfaaGreat
set_option linter.unusedSimpArgs false
set_option linter.unusedVariables false
namespace Go.Proofs.YtnackipaoepmfaaGreat
open Go Go.RowKit
set_option maxRecDepth 100000
set_option maxHeartbeats 20000000
instance X5n : ∀ (p0 : (List ByteArray)) (p1 : ByteArray), Ct (Q5k p0 p1) fun res => Q9 Tryz.prog 0o00556 [(.slice 1 (List.map rS p0)), (eS p1)] (fun d => d = (.agg (Z2 res))) :=
 au Tryz.func366 Q5k.eq_1 (.o (.o (.i .z (.o (.b fun (r4 : (Int)) => .j 4 0 [4, 5] [0, 64] (fun (s18 : Int) => []) (fun s18 => [(64, some ⟨2, [[(eI r4), (eI s18)]], 0, 0x0019⟩)]) .z (fun _ => .z))))))
end Go.Proofs.YtnackipaoepmfaaGreat
set_option linter.unusedSimpArgs false
set_option linter.unusedVariables false
namespace Go.Proofs.YtnackipaoepmfaaGreat
open Go Go.RowKit
set_option maxRecDepth 100000
set_option maxHeartbeats 20000000
instance Z8z : ∀ (p0 : (List (List Q0))), Ct (J5 p0) fun res => Q9 Tryz.prog 0o00422 [(.slice 1 (List.map (rL 6 Q1) p0))] (fun d => d = (.slice 6 (List.map Q1 res))) :=
 au Tryz.func274 J5.eq_1 (.o (.ls 0 (.f [0, 3] [] [0, 3, 9, 10, 11] [] (fun (k46 : Nat) (s42 : Int) => [(3, eI s42), (11, eI (k46 : Int))]) (fun k46 s42 => []) (fun k46 s42 => .z) (fun s50 => .o (.ls 0 (.f [6] [9] [6, 25, 26, 27] [9] (fun (k99 : Nat) (s95 : (List Q0)) => [(6, .sl 6 9 (s95).length), (27, eI (k99 : Int))]) (fun k99 s95 => [(9, some ⟨6, (List.map Q1 s95), 0, 0x0033⟩)]) (fun k99 s95 => .z) (fun s103 => .z)))))))
end Go.Proofs.YtnackipaoepmfaaGreat
set_option linter.unusedSimpArgs false
set_option linter.unusedVariables false
namespace Go.Proofs.YtnackipaoepmfaaGreat
open Go Go.RowKit
set_option maxRecDepth 100000
set_option maxHeartbeats 20000000
instance X5y : ∀ (n : Nat) (p0 : Q0), Ct (V6 n p0) fun res => Q9 Tryz.prog 0o00305 [(.agg (Q1 p0))] (fun d => d = (.agg (Q1 res))) :=
 ar (au Tryz.func197 V6.eq_2 (.o (.o (.b fun (p0 : Q0) => .j 1 0 [1, 2] [0, 8] (fun (s12 : Unit) => []) (fun _ => []) .z (fun s12 => .pC 0 5 6 0x0033 (.ls 27 (.f [1, 2] [0, 66, 1] [1, 2, 29, 30, 31] [0, 66, 1] (fun (k81 : Nat) (s77 : (List Q0)) => [(31, eI (k81 : Int))]) (fun k81 s77 => [(1000000000, some ⟨6, [[(eI p0.op), (eI p0.ctor), (eI p0.n), (eI p0.m), (eI p0.var), (.sl 6 66 (s77).length)]], 0, 0x0033⟩), (66, some ⟨6, (List.map Q1 s77), 0, 0x0033⟩)]) (fun k81 s77 => .o (.g [1, 2, 5, 29, 30, 31] [0, 1, 2, 27] [] [(1000000000, some ⟨6, [[(eI p0.op), (eI p0.ctor), (eI p0.n), (eI p0.m), (eI p0.var), (.sl 6 1 (s77).length)]], 0, 0x0033⟩)] (.o (.o (.d [0, 1, 2, 3, 4, 5, 6, 7] [0, 3] [41] .z))))) (fun s85 => .z))))))))
end Go.Proofs.YtnackipaoepmfaaGreat
set_option linter.unusedSimpArgs false
set_option linter.unusedVariables false
namespace Go.Proofs.YtnackipaoepmfaaGreat
open Go Go.RowKit
set_option maxRecDepth 100000
set_option maxHeartbeats 20000000
instance W2m : ∀ (p0 : Q40) (p1 : (List Q8)), Ct (Q3r p0 p1) fun res => Q9 Tryz.prog 0o00402 [(.agg (Q72 p0)), (.slice 3 (List.map W9 p1))] (fun d => d = (eB res)) :=
 au Tryz.func258 Q3r.eq_1 (.o (.o (.i .z (.j 3 0 [1, 2] [0] (fun (s23 : Unit) => []) (fun _ => []) .z (fun _ => .z)))))
end Go.Proofs.YtnackipaoepmfaaGreat
set_option linter.unusedSimpArgs false
set_option linter.unusedVariables false
namespace Go.Proofs.YtnackipaoepmfaaGreat
open Go Go.RowKit
set_option maxRecDepth 100000
set_option maxHeartbeats 20000000
instance X8x : ∀ (n : Nat) (p0 : Q6) (p1 : Q6), Ct (Q2j n p0 p1) fun res => Q9 Tryz.prog 0o00134 [(.agg (X3 p0)), (.agg (X3 p1))] (fun d => d = (eB res)) :=
 ar (au Tryz.func92 Q2j.eq_2 .z)
end Go.Proofs.YtnackipaoepmfaaGreat
