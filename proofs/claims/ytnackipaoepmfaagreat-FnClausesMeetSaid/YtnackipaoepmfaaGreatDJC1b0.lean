import Derived.Test.YtnackipaoepmfaaGreatDJMir
import Derived.Test.YtnackipaoepmfaaGreatDJAuto
import Derived.Test.YtnackipaoepmfaaGreatDJC0d0
import Derived.Test.YtnackipaoepmfaaGreatDJC0b0
import Derived.Test.YtnackipaoepmfaaGreatDJC0a0
import Derived.Test.YtnackipaoepmfaaGreatDJC0c0
set_option linter.unusedSimpArgs false
set_option linter.unusedVariables false
set_option linter.unusedSimpArgs false
set_option linter.unusedVariables false
namespace Go.Proofs.YtnackipaoepmfaaGreat
open Go Go.RowKit
set_option maxRecDepth 100000
set_option maxHeartbeats 20000000
instance Z79 : ∀ (p0 : (List Q8)) (p1 : Q8), Ct (J8 p0 p1) fun res => Q9 Tryz.prog 0o00462 [(.slice 3 (List.map W9 p0)), (.agg (W9 p1))] (fun d => d = (eB res)) :=
 au Tryz.func306 J8.eq_1 .z
end Go.Proofs.YtnackipaoepmfaaGreat
set_option linter.unusedSimpArgs false
set_option linter.unusedVariables false
namespace Go.Proofs.YtnackipaoepmfaaGreat
open Go Go.RowKit
set_option maxRecDepth 100000
set_option maxHeartbeats 20000000
instance W73 : ∀ (p0 : Int), Ct (Q59 p0) fun res => Q9 Tryz.prog 0o00555 [(eI p0)] (fun d => d = (eB res)) :=
 au Tryz.func365 Q59.eq_1 .z
end Go.Proofs.YtnackipaoepmfaaGreat
set_option linter.unusedSimpArgs false
set_option linter.unusedVariables false
namespace Go.Proofs.YtnackipaoepmfaaGreat
open Go Go.RowKit
set_option maxRecDepth 100000
set_option maxHeartbeats 20000000
instance X7t : ∀ (p0 : Int) (p1 : Int), Ct (Q39 p0 p1) fun res => Q9 Tryz.prog 0o00375 [(eI p0), (eI p1)] (fun d => d = (eI res)) :=
 au Tryz.func253 Q39.eq_1 .z
end Go.Proofs.YtnackipaoepmfaaGreat
set_option linter.unusedSimpArgs false
set_option linter.unusedVariables false
namespace Go.Proofs.YtnackipaoepmfaaGreat
open Go Go.RowKit
set_option maxRecDepth 100000
set_option maxHeartbeats 20000000
instance X7s : ∀ (p0 : Q40) (p1 : (List W6)), Ct (Q26 p0 p1) fun res => Q9 Tryz.prog 0o00241 [(.agg (Q72 p0)), (.slice 4 (List.map Q0q p1))] (fun d => d = (eB res)) :=
 au Tryz.func161 Q26.eq_1 .z
end Go.Proofs.YtnackipaoepmfaaGreat
set_option linter.unusedSimpArgs false
set_option linter.unusedVariables false
namespace Go.Proofs.YtnackipaoepmfaaGreat
open Go Go.RowKit
set_option maxRecDepth 100000
set_option maxHeartbeats 20000000
instance W2s : ∀ (p0 : (List Q8)) (p1 : (List Q8)), Ct (Q3s p0 p1) fun res => Q9 Tryz.prog 0o00515 [(.slice 3 (List.map W9 p0)), (.slice 3 (List.map W9 p1))] (fun d => d = (eB res)) :=
 au Tryz.func333 Q3s.eq_1 (.o (.o (.ls 0 (.f [0, 1] [] [0, 1, 5] [] (fun (k124 : Nat) (s120 : Unit) => [(5, eI (k124 : Int))]) (fun k124 s120 => []) (fun k124 s120 => .o (.o (.g [0, 1, 5, 6] [] [] [] (.i (.d [0, 1, 2, 3, 4, 5, 6, 7, 8, 9, 10, 11, 12, 13, 14] [] [] .z) (.o (.d [0, 1, 2, 3, 4, 5, 6, 7, 8, 9, 10, 11, 12, 13, 14] [] [] .z)))))) (fun s128 => .z)))))
end Go.Proofs.YtnackipaoepmfaaGreat
set_option linter.unusedSimpArgs false
set_option linter.unusedVariables false
namespace Go.Proofs.YtnackipaoepmfaaGreat
open Go Go.RowKit
set_option maxRecDepth 100000
set_option maxHeartbeats 20000000
instance W4t : ∀ (p0 : ByteArray), Ct (Q8r p0) fun res => Q9 Tryz.prog 0o00466 [(eS p0)] (fun d => d = (eB res)) :=
 au Tryz.func310 Q8r.eq_1 .z
end Go.Proofs.YtnackipaoepmfaaGreat
set_option linter.unusedSimpArgs false
set_option linter.unusedVariables false
namespace Go.Proofs.YtnackipaoepmfaaGreat
open Go Go.RowKit
set_option maxRecDepth 100000
set_option maxHeartbeats 20000000
instance X3i : ∀ (p0 : Q0w) (p1 : Q2) (p2 : Int), Ct (Q29 p0 p1 p2) fun res => Q9 Tryz.prog 0o00421 [.cptr (Q1k p0), (.agg (Z2 p1)), (eI p2)] (fun d => d = (.agg (Q1 res))) :=
 au Tryz.func273 Q29.eq_1 (.o (.o (.b fun (p2 : Int) => .g [0, 2, 4, 6, 7] [0, 8, 32] [] [] (.o (.d [0, 1, 2, 3, 4, 5, 8, 6, 7] [0] [] (.pC 2 5 6 0x0033 (.ls 16 (.f [6, 7] [1, 2, 11] [6, 7, 17, 18] [1, 2, 11] (fun (k50 : Nat) (s46 : (List Q0)) => [(18, eI (k50 : Int))]) (fun k50 s46 => [(1000000002, some ⟨6, [[(eI 4), (eI p2), (eI 0), (eI 0), (eI 0), (.sl 6 11 (s46).length)]], 0, 0x0033⟩), (11, some ⟨6, (List.map Q1 s46), 0, 0x0033⟩)]) (fun k50 s46 => .o (.g [6, 7, 17, 18] [0, 1, 2] [] [(1000000001, some ⟨6, [[(eI 4), (eI p2), (eI 0), (eI 0), (eI 0), (.sl 6 2 (s46).length)]], 0, 0x0033⟩)] (.o (.o (.d [0, 1, 2, 3, 4, 5, 6] [1] [25] .z))))) (fun s54 => .z)))))))))
end Go.Proofs.YtnackipaoepmfaaGreat
set_option linter.unusedSimpArgs false
set_option linter.unusedVariables false
namespace Go.Proofs.YtnackipaoepmfaaGreat
open Go Go.RowKit
set_option maxRecDepth 100000
set_option maxHeartbeats 20000000
instance X5s : ∀ (n : Nat) (p0 : Q0w) (p1 : Q2) (p2 : Q0) (p3 : Q0), Ct (W4 n p0 p1 p2 p3) fun res => Q9 Tryz.prog 0o00265 [.cptr (Q1k p0), (.agg (Z2 p1)), (.agg (Q1 p2)), (.agg (Q1 p3))] (fun d => d = .tup [(.agg (Q1 res.1)), (eB res.2)]) :=
 ar (au Tryz.func181 W4.eq_2 (.o (.o (.o (.o (.b fun (p2 : Q0) => .o (.i .z (.i .z (.i .z (.i .z (.g [0, 5, 6, 7, 8, 11] [0, 8, 16, 24, 208] [] [] (.o (.d [0, 1, 2, 3, 4, 5, 6, 9, 7, 8] [0, 1] [] (.pC 4 5 6 0x0033 (.ls 66 (.f [8, 11] [3, 4, 13] [0, 6, 7, 8, 11, 66, 67, 68] [1, 2, 3, 4, 13] (fun (k114 : Nat) (s110 : (List Q0)) => [(68, eI (k114 : Int))]) (fun k114 s110 => [(1000000004, some ⟨6, [[(eI 4), (eI p2.ctor), (eI 0), (eI 0), (eI 0), (.sl 6 13 (s110).length)]], 0, 0x0033⟩), (13, some ⟨6, (List.map Q1 s110), 0, 0x0033⟩)]) (fun k114 s110 => .o (.g [0, 6, 7, 8, 11, 12, 13, 66, 67, 68] [0, 1, 2, 3, 4, 37] [] [(1000000003, some ⟨6, [[(eI 4), (eI p2.ctor), (eI 0), (eI 0), (eI 0), (.sl 6 4 (s110).length)]], 0, 0x0033⟩)] (.o (.o (.o (.dz [0, 1, 2, 3, 4, 5, 6, 7, 8, 9, 10, 11, 12, 13, 14, 15, 16, 17, 18] [0, 1, 5] [1048590] [] .z)))))) (fun s118 => .z)))))))))))))))))
end Go.Proofs.YtnackipaoepmfaaGreat
set_option linter.unusedSimpArgs false
set_option linter.unusedVariables false
namespace Go.Proofs.YtnackipaoepmfaaGreat
open Go Go.RowKit
set_option maxRecDepth 100000
set_option maxHeartbeats 20000000
instance Z4b : ∀ (p0 : (List Q0)) (p1 : (Q0 → Option Bool)) {p1_f : FuncId} {p1_c : List D} [p1_i : CF1 (fun a0 => (.agg (Q1 a0))) (fun r => (eB r)) p1 p1_f p1_c], Ct (Q0j p0 p1) fun res => Q9 Tryz.prog 0o00313 [(.slice 6 (List.map Q1 p0)), .clos p1_f p1_c] (fun d => d = (eB res)) :=
 au Tryz.func203 Q0j.eq_1 .z
end Go.Proofs.YtnackipaoepmfaaGreat
set_option linter.unusedSimpArgs false
set_option linter.unusedVariables false
namespace Go.Proofs.YtnackipaoepmfaaGreat
open Go Go.RowKit
set_option maxRecDepth 100000
set_option maxHeartbeats 20000000
instance X5v : ∀ (n : Nat) (p0 : (List Q0)), Ct (Q2t n p0) fun res => Q9 Tryz.prog 0o00316 [(.slice 6 (List.map Q1 p0))] (fun d => d = (.slice 6 (List.map Q1 res))) :=
 au Tryz.func206 Q2t.eq_1 (.o (.o (.pN 3 6 0x0033 (.ls 0 (.f [3] [40] [3, 6, 7, 8] [40] (fun (k56 : Nat) (s52 : (List Q0)) => [(3, .sl 6 40 (s52).length), (8, eI (k56 : Int))]) (fun k56 s52 => [(40, some ⟨6, (List.map Q1 s52), 0, 0x0033⟩)]) (fun k56 s52 => .z) (fun s60 => .z))))))
end Go.Proofs.YtnackipaoepmfaaGreat
