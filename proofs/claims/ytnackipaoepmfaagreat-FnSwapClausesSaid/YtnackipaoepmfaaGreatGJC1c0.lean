import Derived.Test.YtnackipaoepmfaaGreatGJMir
import Derived.Test.YtnackipaoepmfaaGreatGJAuto
import Derived.Test.YtnackipaoepmfaaGreatGJC0d0
import Derived.Test.YtnackipaoepmfaaGreatGJC0b0
import Derived.Test.YtnackipaoepmfaaGreatGJC0c0
import Derived.Test.YtnackipaoepmfaaGreatGJC0a0
set_option linter.unusedSimpArgs false
set_option linter.unusedVariables false
set_option linter.unusedSimpArgs false
set_option linter.unusedVariables false
namespace Go.Proofs.YtnackipaoepmfaaGreat
open Go Go.RowKit
set_option maxRecDepth 100000
set_option maxHeartbeats 20000000
instance W5r : ∀ (n : Nat) (p0 : Z1) (p1 : Q0) (p2 : Int), Ct (Q1z n p0 p1 p2) fun res => Q0k Tryz.prog 0o00351 [⟨2, [(Y3 p0)], 0, 0x00c4⟩] [.ptr 2 0 0 0, (.agg (Q1 p1)), (eI p2)] (fun H d => H = [some ⟨2, [(Y3 res.2.2)], 0, 0x00c4⟩] ∧ d = .tup [(.agg (Q1 res.1)), (eI res.2.1)]) :=
 ar (au Tryz.func233 Q1z.eq_2 (.o (.o (.o (.b fun (p1 : Q0) => .o (.i .z (.i .z (.i .z (.j 3 0 [0, 2, 4, 6] [0, 1, 9] (fun (s25 : Z1) => []) (fun s25 => [(0, some ⟨2, [(Y3 s25)], 0, 0x00c4⟩)]) .z (fun s25 => .pC 11 5 6 0x0033 (.lc 1 5 6 Q1 p1.kids (.f [0, 6, 8, 9] [0, 2, 11, 67] [0, 4, 6, 8, 9, 10] [0, 1, 2, 11, 67] (fun (k95 : Nat) (s91 : Z1 × (List Q0) × Int) => [(9, eI s91.2.2), (10, eI (k95 : Int))]) (fun k95 s91 => [(0, some ⟨2, [(Y3 s91.1)], 0, 0x00c4⟩), (1000000011, some ⟨6, [[(eI p1.op), (eI p1.ctor), (eI p1.n), (eI p1.m), (eI p1.var), (.sl 6 67 (s91.2.1).length)]], 0, 0x0033⟩), (67, some ⟨6, (List.map Q1 s91.2.1), 0, 0x0033⟩)]) (fun k95 s91 => .z) (fun s99 => .j 14 0 [6, 8, 9] [0, 1, 2, 3] (fun (s112 : Z1) => []) (fun s112 => [(0, some ⟨2, [(Y3 s112)], 0, 0x00c4⟩), (1000000002, some ⟨6, [[(eI p1.op), (eI p1.ctor), (eI p1.n), (eI p1.m), (eI p1.var), (.sl 6 3 (s99.2.1).length)]], 0, 0x0033⟩)]) (.i (.o (.i (.pF 3 (.pF 76 .z)) .z)) .z) (fun _ => .pF 3 .z))))))))))))))
end Go.Proofs.YtnackipaoepmfaaGreat
set_option linter.unusedSimpArgs false
set_option linter.unusedVariables false
namespace Go.Proofs.YtnackipaoepmfaaGreat
open Go Go.RowKit
set_option maxRecDepth 100000
set_option maxHeartbeats 20000000
instance X69 : ∀ (p0 : (List ByteArray)) (p1 : ByteArray), Ct (Q5u p0 p1) fun res => Q9 Tryz.prog 0o00556 [(.slice 1 (List.map rS p0)), (eS p1)] (fun d => d = (.agg (Z6 res))) :=
 au Tryz.func366 Q5u.eq_1 (.o (.o (.i .z (.o (.b fun (r4 : (Int)) => .j 4 0 [4, 5] [0, 64] (fun (s18 : Int) => []) (fun s18 => [(64, some ⟨2, [[(eI r4), (eI s18)]], 0, 0x0019⟩)]) .z (fun _ => .z))))))
end Go.Proofs.YtnackipaoepmfaaGreat
set_option linter.unusedSimpArgs false
set_option linter.unusedVariables false
namespace Go.Proofs.YtnackipaoepmfaaGreat
open Go Go.RowKit
set_option maxRecDepth 100000
set_option maxHeartbeats 20000000
instance W63 : ∀ (p0 : ByteArray), Ct (Q8w p0) fun res => Q9 Tryz.prog 0o00466 [(eS p0)] (fun d => d = (eB res)) :=
 au Tryz.func310 Q8w.eq_1 .z
end Go.Proofs.YtnackipaoepmfaaGreat
set_option linter.unusedSimpArgs false
set_option linter.unusedVariables false
namespace Go.Proofs.YtnackipaoepmfaaGreat
open Go Go.RowKit
set_option maxRecDepth 100000
set_option maxHeartbeats 20000000
instance X9o : ∀ (n : Nat) (p0 : ByteArray), Ct (Q6l n p0) fun res => Q9 Tryz.prog 0o00537 [(eS p0)] (fun d => d = (eB res)) :=
 au Tryz.func351 Q6l.eq_1 (.o (.o (.i .z (.i .z (.o (.o (.i .z (.w [] [] [0, 3] [] (fun (s132 : Int) => [(3, eI s132)]) (fun s132 => []) (fun s132 => .z) (fun s140 => .z)))))))))
end Go.Proofs.YtnackipaoepmfaaGreat
set_option linter.unusedSimpArgs false
set_option linter.unusedVariables false
namespace Go.Proofs.YtnackipaoepmfaaGreat
open Go Go.RowKit
set_option maxRecDepth 100000
set_option maxHeartbeats 20000000
instance Z78 : ∀ (p0 : (List Q2)) (p1 : (Q2 → Option Bool)) {p1_f : FuncId} {p1_c : List D} [p1_i : CF1 (fun a0 => (.agg (Z6 a0))) (fun r => (eB r)) p1 p1_f p1_c], Ct (J4 p0 p1) fun res => Q9 Tryz.prog 0o00257 [(.slice 2 (List.map Z6 p0)), .clos p1_f p1_c] (fun d => d = (eB res)) :=
 au Tryz.func175 J4.eq_1 .z
end Go.Proofs.YtnackipaoepmfaaGreat
set_option linter.unusedSimpArgs false
set_option linter.unusedVariables false
namespace Go.Proofs.YtnackipaoepmfaaGreat
open Go Go.RowKit
set_option maxRecDepth 100000
set_option maxHeartbeats 20000000
instance Z4e : ∀ (p0 : (List Q7)) (p1 : (Q7 → Option Bool)) {p1_f : FuncId} {p1_c : List D} [p1_i : CF1 (fun a0 => (.agg (W8 a0))) (fun r => (eB r)) p1 p1_f p1_c], Ct (Q0i p0 p1) fun res => Q9 Tryz.prog 0o00560 [(.slice 3 (List.map W8 p0)), .clos p1_f p1_c] (fun d => d = (eB res)) :=
 au Tryz.func368 Q0i.eq_1 .z
end Go.Proofs.YtnackipaoepmfaaGreat
set_option linter.unusedSimpArgs false
set_option linter.unusedVariables false
namespace Go.Proofs.YtnackipaoepmfaaGreat
open Go Go.RowKit
set_option maxRecDepth 100000
set_option maxHeartbeats 20000000
instance Z7i : ∀ (p0 : (List Q7)) (p1 : Q7), Ct (J9 p0 p1) fun res => Q9 Tryz.prog 0o00462 [(.slice 3 (List.map W8 p0)), (.agg (W8 p1))] (fun d => d = (eB res)) :=
 au Tryz.func306 J9.eq_1 .z
end Go.Proofs.YtnackipaoepmfaaGreat
set_option linter.unusedSimpArgs false
set_option linter.unusedVariables false
namespace Go.Proofs.YtnackipaoepmfaaGreat
open Go Go.RowKit
set_option maxRecDepth 100000
set_option maxHeartbeats 20000000
instance X6j : ∀ (n : Nat) (p0 : (List Q0)), Ct (Q2w n p0) fun res => Q9 Tryz.prog 0o00316 [(.slice 6 (List.map Q1 p0))] (fun d => d = (.slice 6 (List.map Q1 res))) :=
 au Tryz.func206 Q2w.eq_1 (.o (.o (.pN 3 6 0x0033 (.ls 0 (.f [3] [40] [3, 6, 7, 8] [40] (fun (k56 : Nat) (s52 : (List Q0)) => [(3, .sl 6 40 (s52).length), (8, eI (k56 : Int))]) (fun k56 s52 => [(40, some ⟨6, (List.map Q1 s52), 0, 0x0033⟩)]) (fun k56 s52 => .z) (fun s60 => .z))))))
end Go.Proofs.YtnackipaoepmfaaGreat
set_option linter.unusedSimpArgs false
set_option linter.unusedVariables false
namespace Go.Proofs.YtnackipaoepmfaaGreat
open Go Go.RowKit
set_option maxRecDepth 100000
set_option maxHeartbeats 20000000
instance X6q : ∀ (n : Nat) (p0 : Q0), Ct (V6 n p0) fun res => Q9 Tryz.prog 0o00305 [(.agg (Q1 p0))] (fun d => d = (.agg (Q1 res))) :=
 ar (au Tryz.func197 V6.eq_2 (.o (.o (.b fun (p0 : Q0) => .j 1 0 [1, 2] [0, 8] (fun (s12 : Unit) => []) (fun _ => []) .z (fun s12 => .pC 0 5 6 0x0033 (.ls 27 (.f [1, 2] [0, 66, 1] [1, 2, 29, 30, 31] [0, 66, 1] (fun (k81 : Nat) (s77 : (List Q0)) => [(31, eI (k81 : Int))]) (fun k81 s77 => [(1000000000, some ⟨6, [[(eI p0.op), (eI p0.ctor), (eI p0.n), (eI p0.m), (eI p0.var), (.sl 6 66 (s77).length)]], 0, 0x0033⟩), (66, some ⟨6, (List.map Q1 s77), 0, 0x0033⟩)]) (fun k81 s77 => .o (.g [1, 2, 5, 29, 30, 31] [0, 1, 2, 27] [] [(1000000000, some ⟨6, [[(eI p0.op), (eI p0.ctor), (eI p0.n), (eI p0.m), (eI p0.var), (.sl 6 1 (s77).length)]], 0, 0x0033⟩)] (.o (.o (.d [0, 1, 2, 3, 4, 5, 6, 7] [0, 3] [41] .z))))) (fun s85 => .z))))))))
end Go.Proofs.YtnackipaoepmfaaGreat
set_option linter.unusedSimpArgs false
set_option linter.unusedVariables false
namespace Go.Proofs.YtnackipaoepmfaaGreat
open Go Go.RowKit
set_option maxRecDepth 100000
set_option maxHeartbeats 20000000
instance W3q : ∀ (p0 : Q3j) (p1 : (List Q7)), Ct (Q41 p0 p1) fun res => Q9 Tryz.prog 0o00402 [(.agg (Q77 p0)), (.slice 3 (List.map W8 p1))] (fun d => d = (eB res)) :=
 au Tryz.func258 Q41.eq_1 (.o (.o (.i .z (.j 3 0 [1, 2] [0] (fun (s23 : Unit) => []) (fun _ => []) .z (fun _ => .z)))))
end Go.Proofs.YtnackipaoepmfaaGreat
set_option linter.unusedSimpArgs false
set_option linter.unusedVariables false
namespace Go.Proofs.YtnackipaoepmfaaGreat
open Go Go.RowKit
set_option maxRecDepth 100000
set_option maxHeartbeats 20000000
instance X8r : ∀ (p0 : Int) (p1 : Int), Ct (Q3i p0 p1) fun res => Q9 Tryz.prog 0o00375 [(eI p0), (eI p1)] (fun d => d = (eI res)) :=
 au Tryz.func253 Q3i.eq_1 .z
end Go.Proofs.YtnackipaoepmfaaGreat
