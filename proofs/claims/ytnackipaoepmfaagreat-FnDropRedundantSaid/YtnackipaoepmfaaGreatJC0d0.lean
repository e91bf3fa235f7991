import Derived.Test.YtnackipaoepmfaaGreatJMir
import Derived.Test.YtnackipaoepmfaaGreatJAuto
set_option linter.unusedSimpArgs false
set_option linter.unusedVariables false
set_option linter.unusedSimpArgs false
set_option linter.unusedVariables false
namespace Go.Proofs.YtnackipaoepmfaaGreat
open Go Go.RowKit
set_option maxRecDepth 100000
set_option maxHeartbeats 20000000
instance X8m : ∀ (p0 : Z1) (p1 : Int), Ct (Z2 p0 p1) fun res => Q0u Tryz.prog 0o00105 [⟨2, [(Y3 p0)], 0, 0x00c4⟩] [.ptr 2 0 0 0, (eI p1)] (fun H d => H = [some ⟨2, [(Y3 res.2)], 0, 0x00c4⟩] ∧ d = (eI res.1)) :=
 au Tryz.func69 Z2.eq_1 (.o (.o (.i .z (.i .z (.i .z (.g [0, 1, 5] [0] [] [] (.o (.o (.o (.d [0, 1, 2, 3, 4, 5, 6, 7, 8, 9, 10, 11, 12, 13, 14, 15, 16, 17, 18, 19, 20, 21, 22, 23, 24, 25, 26, 27, 28, 29, 30, 31, 32, 33, 34, 35, 36, 37, 38, 39, 40, 41, 42, 43, 44, 45] [0] [] .z))))))))))
end Go.Proofs.YtnackipaoepmfaaGreat
set_option linter.unusedSimpArgs false
set_option linter.unusedVariables false
namespace Go.Proofs.YtnackipaoepmfaaGreat
open Go Go.RowKit
set_option maxRecDepth 100000
set_option maxHeartbeats 20000000
instance W81 : Ct (Q5k) fun res => Q9 Tryz.prog 0o00140 [] (fun d => d = (.agg (Q1 res))) :=
 au Tryz.func96 Q5k.eq_1 .z
end Go.Proofs.YtnackipaoepmfaaGreat
set_option linter.unusedSimpArgs false
set_option linter.unusedVariables false
namespace Go.Proofs.YtnackipaoepmfaaGreat
open Go Go.RowKit
set_option maxRecDepth 100000
set_option maxHeartbeats 20000000
instance W62 : ∀ (p0 : Q2), Ct (Q91 p0) fun res => Q9 Tryz.prog 0o00366 [(.agg (Z5 p0))] (fun d => d = (eI res)) :=
 au Tryz.func246 Q91.eq_1 .z
end Go.Proofs.YtnackipaoepmfaaGreat
set_option linter.unusedSimpArgs false
set_option linter.unusedVariables false
namespace Go.Proofs.YtnackipaoepmfaaGreat
open Go Go.RowKit
set_option maxRecDepth 100000
set_option maxHeartbeats 20000000
instance W6a : ∀ (n : Nat) (p0 : ByteArray) (p1 : Int), Ct (Q2s n p0 p1) fun res => Q9 Tryz.prog 0o00517 [(eS p0), (.val (.int .u8 p1))] (fun d => d = (.slice 1 (List.map rS res))) :=
 au Tryz.func335 Q2s.eq_1 (.o (.o (.o (.w [5] [8] [0, 1, 5, 6, 7] [8] (fun (s203 : (List ByteArray) × Int × Int) => [(5, .sl 1 8 (s203.1).length), (6, eI s203.2.1), (7, eI s203.2.2)]) (fun s203 => [(8, some ⟨1, (List.map rS s203.1), 0, 0x0009⟩)]) (fun s203 => .i (.j 6 0 [0, 1, 5, 6, 7] [0] (fun (s230 : (List ByteArray) × Int) => [(5, .sl 1 0 (s230.1).length), (6, eI s230.2)]) (fun s230 => [(0, some ⟨1, (List.map rS s230.1), 0, 0x0009⟩)]) .z (fun _ => .z)) .z) (fun s211 => .z)))))
end Go.Proofs.YtnackipaoepmfaaGreat
set_option linter.unusedSimpArgs false
set_option linter.unusedVariables false
namespace Go.Proofs.YtnackipaoepmfaaGreat
open Go Go.RowKit
set_option maxRecDepth 100000
set_option maxHeartbeats 20000000
instance W44 : Ct (Q3z) fun res => Q9 Tryz.prog 0o00457 [] (fun d => d = (.slice 1 (List.map rS res))) :=
 au Tryz.func303 Q3z.eq_1 .z
end Go.Proofs.YtnackipaoepmfaaGreat
set_option linter.unusedSimpArgs false
set_option linter.unusedVariables false
namespace Go.Proofs.YtnackipaoepmfaaGreat
open Go Go.RowKit
set_option maxRecDepth 100000
set_option maxHeartbeats 20000000
instance X6u : ∀ (n : Nat) (p0 : Q0), Ct (V6 n p0) fun res => Q9 Tryz.prog 0o00215 [(.agg (Q1 p0))] (fun d => d = (.agg (Q1 res))) :=
 ar (au Tryz.func141 V6.eq_2 (.o (.o (.b fun (p0 : Q0) => .j 1 0 [1, 2] [0, 8] (fun (s6 : Unit) => []) (fun _ => []) .z (fun s6 => .pC 10 5 6 0x0033 (.lc 0 5 6 Q1 p0.kids (.f [2, 3] [1, 10, 50] [1, 2, 3, 4] [0, 1, 10, 50] (fun (k69 : Nat) (s65 : (List Q0)) => [(4, eI (k69 : Int))]) (fun k69 s65 => [(1000000010, some ⟨6, [[(eI p0.op), (eI p0.ctor), (eI p0.n), (eI p0.m), (eI p0.var), (.sl 6 50 (s65).length)]], 0, 0x0033⟩), (50, some ⟨6, (List.map Q1 s65), 0, 0x0033⟩)]) (fun k69 s65 => .o (.g [1, 2, 3, 4] [0, 1, 2, 3] [] [(1000000002, some ⟨6, [[(eI p0.op), (eI p0.ctor), (eI p0.n), (eI p0.m), (eI p0.var), (.sl 6 3 (s65).length)]], 0, 0x0033⟩)] (.o (.o (.d [0, 1, 2, 3, 4, 5, 6, 7, 8, 9, 10, 11] [0, 2] [40] .z))))) (fun s73 => .z))))))))
end Go.Proofs.YtnackipaoepmfaaGreat
set_option linter.unusedSimpArgs false
set_option linter.unusedVariables false
namespace Go.Proofs.YtnackipaoepmfaaGreat
open Go Go.RowKit
set_option maxRecDepth 100000
set_option maxHeartbeats 20000000
instance X8u : Ct (Q2b) fun res => Q9 Tryz.prog 0o00136 [] (fun d => d = (.agg (Q1 res))) :=
 au Tryz.func94 Q2b.eq_1 .z
end Go.Proofs.YtnackipaoepmfaaGreat
set_option linter.unusedSimpArgs false
set_option linter.unusedVariables false
namespace Go.Proofs.YtnackipaoepmfaaGreat
open Go Go.RowKit
set_option maxRecDepth 100000
set_option maxHeartbeats 20000000
instance Z7m : ∀ (p0 : (List Q7)) (p1 : (Q7 → Option Bool)) {p1_f : FuncId} {p1_c : List D} [p1_i : CF1 (fun a0 => (.agg (V0 a0))) (fun r => (eB r)) p1 p1_f p1_c], Ct (Q2k p0 p1) fun res => Q9 Tryz.prog 0o00575 [(.slice 3 (List.map V0 p0)), .clos p1_f p1_c] (fun d => d = (eI res)) :=
 au Tryz.func381 Q2k.eq_1 (.o (.o (.o (.o (.o (.ls 0 (.f [] [] [0, 1, 7, 8] [] (fun (k54 : Nat) (s50 : Unit) => [(8, eI (k54 : Int))]) (fun k54 s50 => []) (fun k54 s50 => .z) (fun s58 => .z))))))))
end Go.Proofs.YtnackipaoepmfaaGreat
set_option linter.unusedSimpArgs false
set_option linter.unusedVariables false
namespace Go.Proofs.YtnackipaoepmfaaGreat
open Go Go.RowKit
set_option maxRecDepth 100000
set_option maxHeartbeats 20000000
instance Z7n : ∀ (p0 : (List Q0)) (p1 : (Q0 → Option Bool)) {p1_f : FuncId} {p1_c : List D} [p1_i : CF1 (fun a0 => (.agg (Q1 a0))) (fun r => (eB r)) p1 p1_f p1_c], Ct (J3 p0 p1) fun res => Q9 Tryz.prog 0o00423 [(.slice 6 (List.map Q1 p0)), .clos p1_f p1_c] (fun d => d = (eI res)) :=
 au Tryz.func275 J3.eq_1 (.o (.o (.o (.o (.o (.ls 0 (.f [] [] [0, 1, 7, 8] [] (fun (k54 : Nat) (s50 : Unit) => [(8, eI (k54 : Int))]) (fun k54 s50 => []) (fun k54 s50 => .z) (fun s58 => .z))))))))
end Go.Proofs.YtnackipaoepmfaaGreat
set_option linter.unusedSimpArgs false
set_option linter.unusedVariables false
namespace Go.Proofs.YtnackipaoepmfaaGreat
open Go Go.RowKit
set_option maxRecDepth 100000
set_option maxHeartbeats 20000000
instance X2h : ∀ (p1 : Int), Ct (Q1n p1) fun res => Q0u Tryz.prog 0o00501 [] [.nil, (eI p1)] (fun H d => H = [some ⟨6, List.map Q1 res, 0, 0x0033⟩] ∧ d = .sl 6 0 res.length) :=
 au Tryz.func321 Q1n.eq_1 (.o (.i .z (.j 3 0 [0] [9000] (fun (s6 : Unit) => [(0, .sl 6 9000 0)]) (fun _ => [(9000, some ⟨6, (List.map Q1 []), 0, 0x0033⟩)]) (.i (.o (.o (.pS 144 0 Q1 ([] : List Q0) .z))) (.pN 0 6 0x0033 .z)) (fun _ => .z))))
end Go.Proofs.YtnackipaoepmfaaGreat
set_option linter.unusedSimpArgs false
set_option linter.unusedVariables false
namespace Go.Proofs.YtnackipaoepmfaaGreat
open Go Go.RowKit
set_option maxRecDepth 100000
set_option maxHeartbeats 20000000
instance X8r : ∀ (n : Nat) (p0 : Q0), Ct (Q09 n p0) fun res => Q9 Tryz.prog 0o00273 [(.agg (Q1 p0))] (fun d => d = (.agg (Q1 res))) :=
 ar (au Tryz.func187 Q09.eq_2 (.o (.o (.b fun (p0 : Q0) => .pC 0 5 6 0x0033 (.ls 7 (.f [1, 2] [0, 80, 8] [1, 2, 9, 10, 11] [0, 80, 8] (fun (k56 : Nat) (s52 : (List Q0)) => [(11, eI (k56 : Int))]) (fun k56 s52 => [(1000000000, some ⟨6, [[(eI p0.op), (eI p0.ctor), (eI p0.n), (eI p0.m), (eI p0.var), (.sl 6 80 (s52).length)]], 0, 0x0033⟩), (80, some ⟨6, (List.map Q1 s52), 0, 0x0033⟩)]) (fun k56 s52 => .o (.g [1, 2, 5, 9, 10, 11] [0, 1, 2, 27] [] [(1000000000, some ⟨6, [[(eI p0.op), (eI p0.ctor), (eI p0.n), (eI p0.m), (eI p0.var), (.sl 6 1 (s52).length)]], 0, 0x0033⟩)] (.o (.o (.d [0, 1, 2, 3, 4, 5, 6, 7] [0, 3] [21] .z))))) (fun s60 => .z)))))))
end Go.Proofs.YtnackipaoepmfaaGreat
set_option linter.unusedSimpArgs false
set_option linter.unusedVariables false
namespace Go.Proofs.YtnackipaoepmfaaGreat
open Go Go.RowKit
set_option maxRecDepth 100000
set_option maxHeartbeats 20000000
instance W6b : ∀ (p0 : (List Int)) (p1 : (List Int)), Ct (Q22 p0 p1) fun res => Q9 Tryz.prog 0o00021 [(.slice 1 (List.map rI p0)), (.slice 1 (List.map rI p1))] (fun d => d = (eB res)) :=
 au Tryz.func17 Q22.eq_1 (.o (.o (.i .z (.ls 0 (.f [] [] [0, 1, 5] [] (fun (k56 : Nat) (s52 : Unit) => [(5, eI (k56 : Int))]) (fun k56 s52 => []) (fun k56 s52 => .o (.g [0, 1, 5] [] [] [] (.o (.d [0, 1, 2, 3, 4, 5, 6, 7, 8] [] [] .z)))) (fun s60 => .z))))))
end Go.Proofs.YtnackipaoepmfaaGreat
set_option linter.unusedSimpArgs false
set_option linter.unusedVariables false
namespace Go.Proofs.YtnackipaoepmfaaGreat
open Go Go.RowKit
set_option maxRecDepth 100000
set_option maxHeartbeats 20000000
instance W2d : ∀ (n : Nat) (p0 : Q5), Ct (Q1o n p0) fun res => Q9 Tryz.prog 0o00126 [(.agg (V2 p0))] (fun d => d = (.agg (V2 res))) :=
 ar (au Tryz.func86 Q1o.eq_2 (.o (.o (.b fun (p0 : Q5) => .pC 56 2 3 0x002f (.ls 12 (.f [2, 3] [8, 56, 104] [2, 3, 12, 13, 14] [8, 56, 104] (fun (k56 : Nat) (s52 : (List Q5)) => [(14, eI (k56 : Int))]) (fun k56 s52 => [(1000000056, some ⟨3, [[(eI p0.ctor), (eI p0.n), (.sl 3 104 (s52).length)]], 0, 0x002f⟩), (104, some ⟨3, (List.map V2 s52), 0, 0x002f⟩)]) (fun k56 s52 => .o (.g [2, 3, 5, 12, 13, 14] [0, 1, 2, 27] [] [(1000000001, some ⟨3, [[(eI p0.ctor), (eI p0.n), (.sl 3 2 (s52).length)]], 0, 0x002f⟩)] (.o (.o (.d [0, 1, 2, 3, 4, 5, 6, 7] [1, 3] [24] .z))))) (fun s60 => .z)))))))
end Go.Proofs.YtnackipaoepmfaaGreat
set_option linter.unusedSimpArgs false
set_option linter.unusedVariables false
namespace Go.Proofs.YtnackipaoepmfaaGreat
open Go Go.RowKit
set_option maxRecDepth 100000
set_option maxHeartbeats 20000000
instance X8p : ∀ (p0 : Int), Ct (Q67 p0) fun res => Q9 Tryz.prog 0o00535 [(.val (.int .u64 p0))] (fun d => d = (eI res)) :=
 au Tryz.func349 Q67.eq_1 (.o (.j 1 0 [0, 2] [] (fun (s2 : Int × Int) => [(0, .val (.int .u64 s2.1)), (2, eI s2.2)]) (fun _ => []) .z (fun s2 => .j 4 0 [0, 2] [] (fun (s7 : Int × Int) => [(0, .val (.int .u64 s7.1)), (2, eI s7.2)]) (fun _ => []) .z (fun s7 => .j 7 0 [0, 2] [] (fun (s12 : Int × Int) => [(0, .val (.int .u64 s12.1)), (2, eI s12.2)]) (fun _ => []) .z (fun _ => .z)))))
end Go.Proofs.YtnackipaoepmfaaGreat
