import Derived.Test.YtnackipaoepmfaaGreatGJMir
import Derived.Test.YtnackipaoepmfaaGreatGJAuto
set_option linter.unusedSimpArgs false
set_option linter.unusedVariables false
set_option linter.unusedSimpArgs false
set_option linter.unusedVariables false
namespace Go.Proofs.YtnackipaoepmfaaGreat
open Go Go.RowKit
set_option maxRecDepth 100000
set_option maxHeartbeats 20000000
instance Z7h : ∀ (p0 : (List Q5)) (p1 : (List Q5)) (p2 : (Q5 → Q5 → Option Bool)) {p2_f : FuncId} {p2_c : List D} [p2_i : CF2 (fun a0 => (.agg (Z8 a0))) (fun a1 => (.agg (Z8 a1))) (fun r => (eB r)) p2 p2_f p2_c], Ct (J8 p0 p1 p2) fun res => Q9 Tryz.prog 0o00141 [(.slice 9 (List.map Z8 p0)), (.slice 9 (List.map Z8 p1)), .clos p2_f p2_c] (fun d => d = (eB res)) :=
 au Tryz.func97 J8.eq_1 (.o (.o (.o (.o (.o (.o (.i .z (.ls 0 (.f [] [] [1, 2, 15, 16, 17] [] (fun (k66 : Nat) (s62 : Unit) => [(17, eI (k66 : Int))]) (fun k66 s62 => []) (fun k66 s62 => .z) (fun s70 => .z))))))))))
end Go.Proofs.YtnackipaoepmfaaGreat
set_option linter.unusedSimpArgs false
set_option linter.unusedVariables false
namespace Go.Proofs.YtnackipaoepmfaaGreat
open Go Go.RowKit
set_option maxRecDepth 100000
set_option maxHeartbeats 20000000
instance W83 : Ct (Q5i) fun res => Q9 Tryz.prog 0o00140 [] (fun d => d = (.agg (Q1 res))) :=
 au Tryz.func96 Q5i.eq_1 .z
end Go.Proofs.YtnackipaoepmfaaGreat
set_option linter.unusedSimpArgs false
set_option linter.unusedVariables false
namespace Go.Proofs.YtnackipaoepmfaaGreat
open Go Go.RowKit
set_option maxRecDepth 100000
set_option maxHeartbeats 20000000
instance W3u : ∀ (n : Nat) (p0 : Q0) (p1 : Int), Ct (Q37 n p0 p1) fun res => Q9 Tryz.prog 0o00453 [(.agg (Q1 p0)), (eI p1)] (fun d => d = (eI res)) :=
 ar (au Tryz.func299 Q37.eq_2 (.o (.o (.b fun (p0 : Q0) => .o (.lc 0 5 6 Q1 p0.kids (.f [5] [] [1, 2, 5, 6] [0] (fun (k80 : Nat) (s76 : Int) => [(5, eI s76), (6, eI (k80 : Int))]) (fun k80 s76 => []) (fun k80 s76 => .z) (fun s84 => .z)))))))
end Go.Proofs.YtnackipaoepmfaaGreat
set_option linter.unusedSimpArgs false
set_option linter.unusedVariables false
namespace Go.Proofs.YtnackipaoepmfaaGreat
open Go Go.RowKit
set_option maxRecDepth 100000
set_option maxHeartbeats 20000000
instance W5t : ∀ (p0 : (List Q7)) (p1 : Int), Ct (Q2q p0 p1) fun res => Q9 Tryz.prog 0o00472 [(.slice 3 (List.map W8 p0)), (eI p1)] (fun d => d = (eI res)) :=
 au Tryz.func314 Q2q.eq_1 (.o (.o (.ls 0 (.f [] [] [0, 1, 5] [] (fun (k44 : Nat) (s40 : Unit) => [(5, eI (k44 : Int))]) (fun k44 s40 => []) (fun k44 s40 => .z) (fun s48 => .z)))))
end Go.Proofs.YtnackipaoepmfaaGreat
set_option linter.unusedSimpArgs false
set_option linter.unusedVariables false
namespace Go.Proofs.YtnackipaoepmfaaGreat
open Go Go.RowKit
set_option maxRecDepth 100000
set_option maxHeartbeats 20000000
instance W5z : ∀ (p0 : Q2), Ct (Q8t p0) fun res => Q9 Tryz.prog 0o00366 [(.agg (Z6 p0))] (fun d => d = (eI res)) :=
 au Tryz.func246 Q8t.eq_1 .z
end Go.Proofs.YtnackipaoepmfaaGreat
set_option linter.unusedSimpArgs false
set_option linter.unusedVariables false
namespace Go.Proofs.YtnackipaoepmfaaGreat
open Go Go.RowKit
set_option maxRecDepth 100000
set_option maxHeartbeats 20000000
instance W3z : Ct (Q43) fun res => Q9 Tryz.prog 0o00457 [] (fun d => d = (.slice 1 (List.map rS res))) :=
 au Tryz.func303 Q43.eq_1 .z
end Go.Proofs.YtnackipaoepmfaaGreat
set_option linter.unusedSimpArgs false
set_option linter.unusedVariables false
namespace Go.Proofs.YtnackipaoepmfaaGreat
open Go Go.RowKit
set_option maxRecDepth 100000
set_option maxHeartbeats 20000000
instance Z7g : ∀ (p0 : (List Q5)) (p1 : (Q5 → Option Bool)) {p1_f : FuncId} {p1_c : List D} [p1_i : CF1 (fun a0 => (.agg (Z8 a0))) (fun r => (eB r)) p1 p1_f p1_c], Ct (Q3a p0 p1) fun res => Q9 Tryz.prog 0o00360 [(.slice 9 (List.map Z8 p0)), .clos p1_f p1_c] (fun d => d = (eI res)) :=
 au Tryz.func240 Q3a.eq_1 (.o (.o (.o (.o (.o (.ls 0 (.f [] [] [0, 1, 7, 8] [] (fun (k54 : Nat) (s50 : Unit) => [(8, eI (k54 : Int))]) (fun k54 s50 => []) (fun k54 s50 => .z) (fun s58 => .z))))))))
end Go.Proofs.YtnackipaoepmfaaGreat
set_option linter.unusedSimpArgs false
set_option linter.unusedVariables false
namespace Go.Proofs.YtnackipaoepmfaaGreat
open Go Go.RowKit
set_option maxRecDepth 100000
set_option maxHeartbeats 20000000
instance Z75 : ∀ (p0 : (List Q7)) (p1 : (Q7 → Option Bool)) {p1_f : FuncId} {p1_c : List D} [p1_i : CF1 (fun a0 => (.agg (W8 a0))) (fun r => (eB r)) p1 p1_f p1_c], Ct (Q2l p0 p1) fun res => Q9 Tryz.prog 0o00575 [(.slice 3 (List.map W8 p0)), .clos p1_f p1_c] (fun d => d = (eI res)) :=
 au Tryz.func381 Q2l.eq_1 (.o (.o (.o (.o (.o (.ls 0 (.f [] [] [0, 1, 7, 8] [] (fun (k54 : Nat) (s50 : Unit) => [(8, eI (k54 : Int))]) (fun k54 s50 => []) (fun k54 s50 => .z) (fun s58 => .z))))))))
end Go.Proofs.YtnackipaoepmfaaGreat
set_option linter.unusedSimpArgs false
set_option linter.unusedVariables false
namespace Go.Proofs.YtnackipaoepmfaaGreat
open Go Go.RowKit
set_option maxRecDepth 100000
set_option maxHeartbeats 20000000
instance X8m : Ct (Q27) fun res => Q9 Tryz.prog 0o00136 [] (fun d => d = (.agg (Q1 res))) :=
 au Tryz.func94 Q27.eq_1 .z
end Go.Proofs.YtnackipaoepmfaaGreat
set_option linter.unusedSimpArgs false
set_option linter.unusedVariables false
namespace Go.Proofs.YtnackipaoepmfaaGreat
open Go Go.RowKit
set_option maxRecDepth 100000
set_option maxHeartbeats 20000000
instance X1u : ∀ (p1 : Int), Ct (Q1j p1) fun res => Q0k Tryz.prog 0o00501 [] [.nil, (eI p1)] (fun H d => H = [some ⟨6, List.map Q1 res, 0, 0x0033⟩] ∧ d = .sl 6 0 res.length) :=
 au Tryz.func321 Q1j.eq_1 (.o (.i .z (.j 3 0 [0] [9000] (fun (s6 : Unit) => [(0, .sl 6 9000 0)]) (fun _ => [(9000, some ⟨6, (List.map Q1 []), 0, 0x0033⟩)]) (.i (.o (.o (.pS 144 0 Q1 ([] : List Q0) .z))) (.pN 0 6 0x0033 .z)) (fun _ => .z))))
end Go.Proofs.YtnackipaoepmfaaGreat
set_option linter.unusedSimpArgs false
set_option linter.unusedVariables false
namespace Go.Proofs.YtnackipaoepmfaaGreat
open Go Go.RowKit
set_option maxRecDepth 100000
set_option maxHeartbeats 20000000
instance X8l : ∀ (n : Nat) (p0 : Q0), Ct (Q0l n p0) fun res => Q9 Tryz.prog 0o00306 [(.agg (Q1 p0))] (fun d => d = (eI res)) :=
 ar (au Tryz.func198 Q0l.eq_2 (.o (.o (.o (.j 2 0 [1, 3] [0] (fun (s2 : Int) => [(3, eI s2)]) (fun _ => []) .z (fun s2 => .ls 10 (.f [3] [] [1, 3, 10, 11, 12] [0] (fun (k86 : Nat) (s82 : Int) => [(3, eI s82), (12, eI (k86 : Int))]) (fun k86 s82 => []) (fun k86 s82 => .o (.j 6 0 [1, 3, 10, 11, 12] [0] (fun (s94 : Int) => [(3, eI s94)]) (fun _ => []) .z (fun _ => .z))) (fun s90 => .z))))))))
end Go.Proofs.YtnackipaoepmfaaGreat
set_option linter.unusedSimpArgs false
set_option linter.unusedVariables false
namespace Go.Proofs.YtnackipaoepmfaaGreat
open Go Go.RowKit
set_option maxRecDepth 100000
set_option maxHeartbeats 20000000
instance W5l : ∀ (n : Nat) (p0 : Q0) (p1 : Q0), Ct (Q01 n p0 p1) fun res => Q9 Tryz.prog 0o00267 [(.agg (Q1 p0)), (.agg (Q1 p1))] (fun d => d = .tup [(.agg (Q1 res.1)), (eB res.2)]) :=
 ar (au Tryz.func183 Q01.eq_2 (.o (.o (.b fun (p0 : Q0) => .o (.i .z (.i .z (.i (.j 8 0 [3, 4, 6, 7] [8, 16] (fun (s19 : Int) => [(6, eI s19)]) (fun _ => []) .z (fun s19 => .j 10 0 [4, 6, 7] [1] (fun (s24 : Int) => [(7, eI s24)]) (fun _ => []) .z (fun _ => .z))) (.i .z (.pC 200 5 6 0x0033 (.lc 0 5 6 Q1 p0.kids (.f [4, 8] [16, 200, 224] [2, 3, 4, 8, 9] [0, 8, 16, 200, 224] (fun (k114 : Nat) (s110 : (List Q0)) => [(9, eI (k114 : Int))]) (fun k114 s110 => [(1000000200, some ⟨6, [[(eI 4), (eI p0.ctor), (eI 0), (eI 0), (eI 0), (.sl 6 224 (s110).length)]], 0, 0x0033⟩), (224, some ⟨6, (List.map Q1 s110), 0, 0x0033⟩)]) (fun k114 s110 => .o (.g [2, 3, 4, 8, 9] [0, 1, 2, 3, 4] [] [(1000000003, some ⟨6, [[(eI 4), (eI p0.ctor), (eI 0), (eI 0), (eI 0), (.sl 6 4 (s110).length)]], 0, 0x0033⟩)] (.o (.o (.dz [0, 1, 2, 3, 4, 5, 6, 7, 8, 9, 10, 11, 12, 13, 14, 15, 16] [0, 1] [1048586] [] .z))))) (fun s118 => .z))))))))))))
end Go.Proofs.YtnackipaoepmfaaGreat
set_option linter.unusedSimpArgs false
set_option linter.unusedVariables false
namespace Go.Proofs.YtnackipaoepmfaaGreat
open Go Go.RowKit
set_option maxRecDepth 100000
set_option maxHeartbeats 20000000
instance W20 : ∀ (p0 : Q0) (p1 : Q0), Ct (Q3f p0 p1) fun res => Q9 Tryz.prog 0o00541 [(.agg (Q1 p0)), (.agg (Q1 p1))] (fun d => d = (.slice 6 (List.map Q1 res))) :=
 au Tryz.func353 Q3f.eq_1 (.b fun (p0 : Q0) => .o (.j 3 0 [2, 3, 5, 6] [0, 8, 24, 80] (fun (s2 : Int) => []) (fun s2 => [(80, some ⟨6, [[(eI 3), (eI 0), (eI p0.n), (eI s2), (eI 0), .nil]], 0, 0x0033⟩)]) .z (fun s2 => .j 5 0 [2, 3, 5] [0, 1, 2] (fun (s8 : (List Q0)) => [(5, .sl 6 2 (s8).length)]) (fun s8 => [(2, some ⟨6, (List.map Q1 s8), 0, 0x0033⟩)]) .z (fun s8 => .j 8 0 [5, 7] [2, 43] (fun (s14 : Int) => []) (fun s14 => [(43, some ⟨6, [[(eI 3), (eI 0), (eI s14), (eI p0.m), (eI 0), .nil]], 0, 0x0033⟩)]) .z (fun s14 => .j 10 0 [5] [0] (fun (s20 : (List Q0)) => [(5, .sl 6 0 (s20).length)]) (fun s20 => [(0, some ⟨6, (List.map Q1 s20), 0, 0x0033⟩)]) .z (fun _ => .z))))))
end Go.Proofs.YtnackipaoepmfaaGreat
