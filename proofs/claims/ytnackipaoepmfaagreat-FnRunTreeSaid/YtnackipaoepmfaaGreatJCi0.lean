import Derived.Test.YtnackipaoepmfaaGreatJMir
import Derived.Test.YtnackipaoepmfaaGreatJAuto
import Derived.Test.YtnackipaoepmfaaGreatJAuI
set_option linter.unusedSimpArgs false
set_option linter.unusedVariables false
set_option linter.unusedSimpArgs false
set_option linter.unusedVariables false
namespace Go.Proofs.YtnackipaoepmfaaGreat
open Go Go.RowKit
set_option maxRecDepth 100000
set_option maxHeartbeats 20000000
instance Z8f : ∀ (p0 : (List Q7)) (p1 : (Q7 → Option Bool)) {p1_f : FuncId} {p1_c : List D} [p1_i : CF1 (fun a0 => (.agg (V6 a0))) (fun r => (eB r)) p1 p1_f p1_c], Ct (Q37 p0 p1) fun res => Z1 Tryz.prog 0o00360 [(.slice 9 (List.map V6 p0)), .clos p1_f p1_c] (fun d => d = (eI res)) :=
 au Tryz.func240 Q37.eq_1 (.o (.o (.o (.o (.o (.ls 0 (.f [] [] [0, 1, 7, 8] [] (fun (k54 : Nat) (s50 : Unit) => [(8, eI (k54 : Int))]) (fun k54 s50 => []) (fun k54 s50 => .z) (fun s58 => .z))))))))
end Go.Proofs.YtnackipaoepmfaaGreat
set_option linter.unusedSimpArgs false
set_option linter.unusedVariables false
namespace Go.Proofs.YtnackipaoepmfaaGreat
open Go Go.RowKit
set_option maxRecDepth 100000
set_option maxHeartbeats 20000000
instance Z5q : ∀ (p0 : (List Q7)) (p1 : (Q7 → Option Bool)) {p1_f : FuncId} {p1_c : List D} [p1_i : CF1 (fun a0 => (.agg (V6 a0))) (fun r => (eB r)) p1 p1_f p1_c], Ct (Q10 p0 p1) fun res => Z1 Tryz.prog 0o00221 [(.slice 9 (List.map V6 p0)), .clos p1_f p1_c] (fun d => d = (eB res)) :=
 au Tryz.func145 Q10.eq_1 .z
end Go.Proofs.YtnackipaoepmfaaGreat
set_option linter.unusedSimpArgs false
set_option linter.unusedVariables false
namespace Go.Proofs.YtnackipaoepmfaaGreat
open Go Go.RowKit
set_option maxRecDepth 100000
set_option maxHeartbeats 20000000
instance W6p : ∀ (p0 : Int) (p1 : Int) (p2 : Int), Ct (V7 p0 p1 p2) fun res => Z1 Tryz.prog 0o00123 [(eI p0), (eI p1), (eI p2)] (fun d => d = (eB res)) :=
 au Tryz.func83 V7.eq_1 .z
end Go.Proofs.YtnackipaoepmfaaGreat
set_option linter.unusedSimpArgs false
set_option linter.unusedVariables false
namespace Go.Proofs.YtnackipaoepmfaaGreat
open Go Go.RowKit
set_option maxRecDepth 100000
set_option maxHeartbeats 20000000
instance X0e : ∀ (p0 : (List Q5)) (p1 : (Q5 → Option Bool)) {p1_f : FuncId} {p1_c : List D} [p1_i : CF1 (fun a0 => (.agg (W9 a0))) (fun r => (eB r)) p1 p1_f p1_c], Ct (Q3r p0 p1) fun res => Z1 Tryz.prog 0o00407 [(.slice 2 (List.map W9 p0)), .clos p1_f p1_c] (fun d => d = (eI res)) :=
 au Tryz.func263 Q3r.eq_1 (.o (.o (.o (.o (.o (.ls 0 (.f [] [] [0, 1, 7, 8] [] (fun (k54 : Nat) (s50 : Unit) => [(8, eI (k54 : Int))]) (fun k54 s50 => []) (fun k54 s50 => .z) (fun s58 => .z))))))))
end Go.Proofs.YtnackipaoepmfaaGreat
set_option linter.unusedSimpArgs false
set_option linter.unusedVariables false
namespace Go.Proofs.YtnackipaoepmfaaGreat
open Go Go.RowKit
set_option maxRecDepth 100000
set_option maxHeartbeats 20000000
instance Z83 : ∀ (p0 : (List Q5)) (p1 : (Q5 → Option Bool)) {p1_f : FuncId} {p1_c : List D} [p1_i : CF1 (fun a0 => (.agg (W9 a0))) (fun r => (eB r)) p1 p1_f p1_c], Ct (Q2k p0 p1) fun res => Z1 Tryz.prog 0o00257 [(.slice 2 (List.map W9 p0)), .clos p1_f p1_c] (fun d => d = (eB res)) :=
 au Tryz.func175 Q2k.eq_1 .z
end Go.Proofs.YtnackipaoepmfaaGreat
set_option linter.unusedSimpArgs false
set_option linter.unusedVariables false
namespace Go.Proofs.YtnackipaoepmfaaGreat
open Go Go.RowKit
set_option maxRecDepth 100000
set_option maxHeartbeats 20000000
instance W02 : ∀ (n : Nat) (p0 : ByteArray), Ct (Q6w n p0) fun res => Z1 Tryz.prog 0o00476 [(eS p0)] (fun d => d = (eB res)) :=
 au Tryz.func318 Q6w.eq_1 (.o (.o (.o (.i .z (.o (.i .z (.i .z (.w [] [] [0, 3] [] (fun (s132 : Int) => [(3, eI s132)]) (fun s132 => []) (fun s132 => .z) (fun s140 => .z)))))))))
end Go.Proofs.YtnackipaoepmfaaGreat
set_option linter.unusedSimpArgs false
set_option linter.unusedVariables false
namespace Go.Proofs.YtnackipaoepmfaaGreat
open Go Go.RowKit
set_option maxRecDepth 100000
set_option maxHeartbeats 20000000
instance W8p : ∀ (p0 : (List Q3)) (p1 : Q5), Ct (Z07 p0 p1) fun res => Z1 Tryz.prog 0o00500 [(.slice 2 (List.map V0 p0)), (.agg (W9 p1))] (fun d => d = (eB res)) :=
 au Tryz.func320 Z07.eq_1 .z
end Go.Proofs.YtnackipaoepmfaaGreat
set_option linter.unusedSimpArgs false
set_option linter.unusedVariables false
namespace Go.Proofs.YtnackipaoepmfaaGreat
open Go Go.RowKit
set_option maxRecDepth 100000
set_option maxHeartbeats 20000000
instance W27 : ∀ (p0 : Q5) (q0 : (List Q3)), Ct (Q7l p0 q0) fun res => Z1 Tryz.prog 0o00477 [(.agg (W9 p0)), .cptr [(.slice 2 (List.map V0 q0))]] (fun d => d = (eB res)) :=
 au Tryz.func319 Q7l.eq_1 .z
end Go.Proofs.YtnackipaoepmfaaGreat
set_option linter.unusedSimpArgs false
set_option linter.unusedVariables false
namespace Go.Proofs.YtnackipaoepmfaaGreat
open Go Go.RowKit
set_option maxRecDepth 100000
set_option maxHeartbeats 20000000
instance W6r : ∀ (n : Nat) (p0 : (List Q3)) (p1 : Q6r), Ct (Q99 n p0 p1) fun res => Z1 Tryz.prog 0o00406 [(.slice 2 (List.map V0 p0)), (.agg (Q5u p1))] (fun d => d = (eB res)) :=
 au Tryz.func262 Q99.eq_1 .z
end Go.Proofs.YtnackipaoepmfaaGreat
set_option linter.unusedSimpArgs false
set_option linter.unusedVariables false
namespace Go.Proofs.YtnackipaoepmfaaGreat
open Go Go.RowKit
set_option maxRecDepth 100000
set_option maxHeartbeats 20000000
instance X8o : ∀ (n : Nat) (p0 : (List Q3)), Ct (Q3i n p0) fun res => Z1 Tryz.prog 0o00252 [(.slice 2 (List.map V0 p0))] (fun d => d = (eB res)) :=
 au Tryz.func170 Q3i.eq_1 (.o (.o (.i .z (.ls 0 (.f [] [] [0, 3, 4, 14, 15, 16] [32, 48] (fun (k1660 : Nat) (s1656 : (List (ByteArray × Bool)) × (List (ByteArray × Bool))) => [(16, eI (k1660 : Int))]) (fun k1660 s1656 => [(32, some ⟨0, List.map rSB s1656.1, 0, 0x0131⟩), (48, some ⟨0, List.map rSB s1656.2, 0, 0x0131⟩)]) (fun k1660 s1656 => .o (.i .z (.o (.i .z (.i .z (.i .z (.i .z (.o (.i .z (.ls 49 (.f [0, 3, 4, 14, 15, 16] [0, 1] [0, 3, 4, 14, 15, 16, 58, 59, 60] [0, 1] (fun (k1952 : Nat) (s1948 : (List (ByteArray × Bool))) => [(60, eI (k1952 : Int))]) (fun k1952 s1948 => [(0, some ⟨0, List.map rSB s1948, 0, 0x0131⟩)]) (fun k1952 s1948 => .z) (fun s1956 => .z)))))))))))) (fun s1664 => .z))))))
end Go.Proofs.YtnackipaoepmfaaGreat
set_option linter.unusedSimpArgs false
set_option linter.unusedVariables false
namespace Go.Proofs.YtnackipaoepmfaaGreat
open Go Go.RowKit
set_option maxRecDepth 100000
set_option maxHeartbeats 20000000
instance W6q : ∀ (p0 : (List Q3)) (p1 : Q5), Ct (Q63 p0 p1) fun res => Z1 Tryz.prog 0o00253 [(.slice 2 (List.map V0 p0)), (.agg (W9 p1))] (fun d => d = (eB res)) :=
 au Tryz.func171 Q63.eq_1 .z
end Go.Proofs.YtnackipaoepmfaaGreat
set_option linter.unusedSimpArgs false
set_option linter.unusedVariables false
namespace Go.Proofs.YtnackipaoepmfaaGreat
open Go Go.RowKit
set_option maxRecDepth 100000
set_option maxHeartbeats 20000000
instance W01 : ∀ (n : Nat) (p0 : (List Q3)) (p1 : Q5), Ct (Q3z n p0 p1) fun res => Z1 Tryz.prog 0o00122 [(.slice 2 (List.map V0 p0)), (.agg (W9 p1))] (fun d => d = (eB res)) :=
 au Tryz.func82 Q3z.eq_1 .z
end Go.Proofs.YtnackipaoepmfaaGreat
set_option linter.unusedSimpArgs false
set_option linter.unusedVariables false
namespace Go.Proofs.YtnackipaoepmfaaGreat
open Go Go.RowKit
set_option maxRecDepth 100000
set_option maxHeartbeats 20000000
instance Z82 : ∀ (p0 : (List Q9)) (p1 : (Q9 → Option Bool)) {p1_f : FuncId} {p1_c : List D} [p1_i : CF1 (fun a0 => (.agg (V4 a0))) (fun r => (eB r)) p1 p1_f p1_c], Ct (Q2j p0 p1) fun res => Z1 Tryz.prog 0o00575 [(.slice 3 (List.map V4 p0)), .clos p1_f p1_c] (fun d => d = (eI res)) :=
 au Tryz.func381 Q2j.eq_1 (.o (.o (.o (.o (.o (.ls 0 (.f [] [] [0, 1, 7, 8] [] (fun (k54 : Nat) (s50 : Unit) => [(8, eI (k54 : Int))]) (fun k54 s50 => []) (fun k54 s50 => .z) (fun s58 => .z))))))))
end Go.Proofs.YtnackipaoepmfaaGreat
set_option linter.unusedSimpArgs false
set_option linter.unusedVariables false
namespace Go.Proofs.YtnackipaoepmfaaGreat
open Go Go.RowKit
set_option maxRecDepth 100000
set_option maxHeartbeats 20000000
instance Z5c : ∀ (p0 : (List Q9)) (p1 : (Q9 → Option Bool)) {p1_f : FuncId} {p1_c : List D} [p1_i : CF1 (fun a0 => (.agg (V4 a0))) (fun r => (eB r)) p1 p1_f p1_c], Ct (Q0t p0 p1) fun res => Z1 Tryz.prog 0o00560 [(.slice 3 (List.map V4 p0)), .clos p1_f p1_c] (fun d => d = (eB res)) :=
 au Tryz.func368 Q0t.eq_1 .z
end Go.Proofs.YtnackipaoepmfaaGreat
set_option linter.unusedSimpArgs false
set_option linter.unusedVariables false
namespace Go.Proofs.YtnackipaoepmfaaGreat
open Go Go.RowKit
set_option maxRecDepth 100000
set_option maxHeartbeats 20000000
instance X1b : ∀ (p0 : (List Q9)) (p1 : Q9), Ct (Q2d p0 p1) fun res => Z1 Tryz.prog 0o00523 [(.slice 3 (List.map V4 p0)), (.agg (V4 p1))] (fun d => d = (eI res)) :=
 au Tryz.func339 Q2d.eq_1 (.o (.o (.ls 0 (.f [] [] [0, 3, 7, 8] [0] (fun (k44 : Nat) (s40 : Unit) => [(8, eI (k44 : Int))]) (fun k44 s40 => []) (fun k44 s40 => .o (.g [0, 3, 5, 7, 8] [0] [] [] (.d [0, 1, 2, 3, 4, 5] [0] [] .z))) (fun s48 => .z)))))
end Go.Proofs.YtnackipaoepmfaaGreat
set_option linter.unusedSimpArgs false
set_option linter.unusedVariables false
namespace Go.Proofs.YtnackipaoepmfaaGreat
open Go Go.RowKit
set_option maxRecDepth 100000
set_option maxHeartbeats 20000000
instance Z8h : ∀ (p0 : (List Q9)) (p1 : Q9), Ct (Q09 p0 p1) fun res => Z1 Tryz.prog 0o00462 [(.slice 3 (List.map V4 p0)), (.agg (V4 p1))] (fun d => d = (eB res)) :=
 au Tryz.func306 Q09.eq_1 .z
end Go.Proofs.YtnackipaoepmfaaGreat
set_option linter.unusedSimpArgs false
set_option linter.unusedVariables false
namespace Go.Proofs.YtnackipaoepmfaaGreat
open Go Go.RowKit
set_option maxRecDepth 100000
set_option maxHeartbeats 20000000
instance X8l : ∀ (p0 : Q9) (q0 : (List Q9)), Ct (Q4u p0 q0) fun res => Z1 Tryz.prog 0o00561 [(.agg (V4 p0)), .cptr [(.slice 3 (List.map V4 q0))]] (fun d => d = (eB res)) :=
 au Tryz.func369 Q4u.eq_1 .z
end Go.Proofs.YtnackipaoepmfaaGreat
set_option linter.unusedSimpArgs false
set_option linter.unusedVariables false
namespace Go.Proofs.YtnackipaoepmfaaGreat
open Go Go.RowKit
set_option maxRecDepth 100000
set_option maxHeartbeats 20000000
instance W22 : ∀ (p0 : (List Q9)) (p1 : (List Q9)), Ct (Q4j p0 p1) fun res => Z1 Tryz.prog 0o00522 [(.slice 3 (List.map V4 p0)), (.slice 3 (List.map V4 p1))] (fun d => d = (eB res)) :=
 au Tryz.func338 Q4j.eq_1 .z
end Go.Proofs.YtnackipaoepmfaaGreat
set_option linter.unusedSimpArgs false
set_option linter.unusedVariables false
namespace Go.Proofs.YtnackipaoepmfaaGreat
open Go Go.RowKit
set_option maxRecDepth 100000
set_option maxHeartbeats 20000000
instance V0e : ∀ (p0 : Q0) (p1 : Bool) (p2 : Bool) (p3 : Bool) (p4 : Int), Ct (Q39 p0 p1 p2 p3 p4) fun res => Z1 Tryz.prog 0o00554 [(.agg (Q8 p0)), (eB p1), (eB p2), (eB p3), (eI p4)] (fun d => d = (eB res)) :=
 au Tryz.func364 Q39.eq_1 .z
end Go.Proofs.YtnackipaoepmfaaGreat
set_option linter.unusedSimpArgs false
set_option linter.unusedVariables false
namespace Go.Proofs.YtnackipaoepmfaaGreat
open Go Go.RowKit
set_option maxRecDepth 100000
set_option maxHeartbeats 20000000
instance W8n : ∀ (p0 : Int), Ct (Q5o p0) fun res => Z1 Tryz.prog 0o00555 [(eI p0)] (fun d => d = (eB res)) :=
 au Tryz.func365 Q5o.eq_1 .z
end Go.Proofs.YtnackipaoepmfaaGreat
set_option linter.unusedSimpArgs false
set_option linter.unusedVariables false
namespace Go.Proofs.YtnackipaoepmfaaGreat
open Go Go.RowKit
set_option maxRecDepth 100000
set_option maxHeartbeats 20000000
instance W4h : ∀ (p0 : (List Q3)) (p1 : Q5), Ct (Q1l p0 p1) fun res => Z1 Tryz.prog 0o00254 [(.slice 2 (List.map V0 p0)), (.agg (W9 p1))] (fun d => d = (.slice 1 (List.map rI res))) :=
 au Tryz.func172 Q1l.eq_1 (.o (.o (.j 2 0 [5] [9000] (fun (s116 : (List Int)) => [(5, .sl 1 9000 (s116).length)]) (fun s116 => [(9000, some ⟨1, (List.map rI s116), 0, 0x0003⟩)]) (.i (.o (.pN 5 1 0x0003 (.ls 16 (.f [5] [112] [3, 5, 16, 17, 18] [0, 112] (fun (k198 : Nat) (s194 : (List Int)) => [(5, .sl 1 112 (s194).length), (18, eI (k198 : Int))]) (fun k198 s194 => [(112, some ⟨1, (List.map rI s194), 0, 0x0003⟩)]) (fun k198 s194 => .o (.j 5 0 [3, 5, 16, 17, 18] [0, 1] (fun (s217 : (List Int)) => [(5, .sl 1 1 (s217).length)]) (fun s217 => [(1, some ⟨1, (List.map rI s217), 0, 0x0003⟩)]) .z (fun _ => .z))) (fun s202 => .z))))) (.pN 5 1 0x0003 .z)) (fun _ => .z))))
end Go.Proofs.YtnackipaoepmfaaGreat
set_option linter.unusedSimpArgs false
set_option linter.unusedVariables false
namespace Go.Proofs.YtnackipaoepmfaaGreat
open Go Go.RowKit
set_option maxRecDepth 100000
set_option maxHeartbeats 20000000
instance W29 : ∀ (p0 : (List Q3)) (p1 : Q5) (p2 : Int), Ct (Q1q p0 p1 p2) fun res => Z1 Tryz.prog 0o00255 [(.slice 2 (List.map V0 p0)), (.agg (W9 p1)), (eI p2)] (fun d => d = (.slice 2 (List.map W9 res))) :=
 au Tryz.func173 Q1q.eq_1 (.o (.o (.o (.o (.o (.j 3 0 [7, 8] [88] (fun (s4 : Int) => [(8, eI s4)]) (fun _ => []) .z (fun s4 => .pN 9 2 0x0019 (.ls 28 (.f [9] [41] [8, 9, 28, 29, 30] [41] (fun (k103 : Nat) (s99 : (List Q5)) => [(9, .sl 2 41 (s99).length), (30, eI (k103 : Int))]) (fun k103 s99 => [(41, some ⟨2, (List.map W9 s99), 0, 0x0019⟩)]) (fun k103 s99 => .b fun (x104 : Q5) => .j 9 0 [8, 9, 11, 28, 29, 30] [0, 25] (fun (s115 : Int) => []) (fun s115 => [(25, some ⟨2, [[(eI x104.data), (eI s115)]], 0, 0x0019⟩)]) .z (fun _ => .z)) (fun s107 => .z))))))))))
end Go.Proofs.YtnackipaoepmfaaGreat
set_option linter.unusedSimpArgs false
set_option linter.unusedVariables false
namespace Go.Proofs.YtnackipaoepmfaaGreat
open Go Go.RowKit
set_option maxRecDepth 100000
set_option maxHeartbeats 20000000
instance X6o : ∀ (p0 : (List Int)) (p1 : Int), Ct (Q4a p0 p1) fun res => Z1 Tryz.prog 0o00321 [(.slice 1 (List.map rI p0)), (eI p1)] (fun d => d = (eI res)) :=
 au Tryz.func209 Q4a.eq_1 (.o (.o (.ls 0 (.f [] [] [0, 1, 7, 8] [] (fun (k44 : Nat) (s40 : Unit) => [(8, eI (k44 : Int))]) (fun k44 s40 => []) (fun k44 s40 => .z) (fun s48 => .z)))))
end Go.Proofs.YtnackipaoepmfaaGreat
set_option linter.unusedSimpArgs false
set_option linter.unusedVariables false
namespace Go.Proofs.YtnackipaoepmfaaGreat
open Go Go.RowKit
set_option maxRecDepth 100000
set_option maxHeartbeats 20000000
instance X2t : ∀ (p0 : (List Int)) (p1 : Int), Ct (Q01 p0 p1) fun res => Z1 Tryz.prog 0o00157 [(.slice 1 (List.map rI p0)), (eI p1)] (fun d => d = (eB res)) :=
 au Tryz.func111 Q01.eq_1 .z
end Go.Proofs.YtnackipaoepmfaaGreat
set_option linter.unusedSimpArgs false
set_option linter.unusedVariables false
namespace Go.Proofs.YtnackipaoepmfaaGreat
open Go Go.RowKit
set_option maxRecDepth 100000
set_option maxHeartbeats 20000000
instance W8l : ∀ (p0 : (List Q3)) (p1 : Q5) (p2 : Q0), Ct (Q6o p0 p1 p2) fun res => Z1 Tryz.prog 0o00516 [(.slice 2 (List.map V0 p0)), (.agg (W9 p1)), (.agg (Q8 p2))] (fun d => d = .tup [(.slice 2 (List.map W9 res.1)), (eB res.2)]) :=
 au Tryz.func334 Q6o.eq_1 (.o (.o (.o (.i .z (.i .z (.i (.g [4, 5] [0, 8] [] [] (.i (.o (.i (.i (.i (.d [0, 1, 2, 3, 4, 5, 6, 7, 8, 9, 10, 11, 12, 13, 14, 15, 16, 17, 18, 19, 20, 21, 22, 23, 24, 25] [0, 1] [] .z) (.d [0, 1, 2, 3, 4, 5, 6, 7, 8, 9, 10, 11, 12, 13, 14, 15, 16, 17, 18, 19, 20, 21, 22, 23, 24, 25] [0, 1] [] .z)) (.d [0, 1, 2, 3, 4, 5, 6, 7, 8, 9, 10, 11, 12, 13, 14, 15, 16, 17, 18, 19, 20, 21, 22, 23, 24, 25] [0, 1] [] .z)) (.d [0, 1, 2, 3, 4, 5, 6, 7, 8, 9, 10, 11, 12, 13, 14, 15, 16, 17, 18, 19, 20, 21, 22, 23, 24, 25] [0, 1] [] .z))) (.d [0, 1, 2, 3, 4, 5, 6, 7, 8, 9, 10, 11, 12, 13, 14, 15, 16, 17, 18, 19, 20, 21, 22, 23, 24, 25] [0] [] .z))) (.i (.g [0, 4, 5] [0, 8] [] [] (.o (.o (.d [0, 1, 3, 4, 2, 5, 6] [0, 1] [] .z)))) (.i (.g [4, 5] [0, 8] [] [] (.o (.dz [0, 1, 3, 4, 2, 5, 6] [0, 1] [1048649] [] .z))) (.i (.g [4, 5] [0, 8] [] [] (.o (.i (.o (.dz [0, 2, 3, 4, 5, 6, 7, 8, 1, 9, 10] [0, 1] [1048655] [] .z)) (.dz [0, 2, 3, 4, 5, 6, 7, 8, 1, 9, 10] [0, 1] [1048655] [] .z)))) .z)))))))))
end Go.Proofs.YtnackipaoepmfaaGreat
set_option linter.unusedSimpArgs false
set_option linter.unusedVariables false
namespace Go.Proofs.YtnackipaoepmfaaGreat
open Go Go.RowKit
set_option maxRecDepth 100000
set_option maxHeartbeats 20000000
instance X6s : ∀ (n : Nat) (p0 : (List Q3)) (p1 : Q5) (p2 : Q0) (p3 : Int) (p4 : Int), Ct (Q13 n p0 p1 p2 p3 p4) fun res => J6 Tryz.prog 0o00461 [⟨1, [[(eI p4)]], 0, 0x0003⟩] [(.slice 2 (List.map V0 p0)), (.agg (W9 p1)), (.agg (Q8 p2)), (eI p3), .ptr 1 0 0 0] (fun H d => H = [some ⟨1, [[(eI res.2.2)]], 0, 0x0003⟩] ∧ d = .tup [(.slice 3 (List.map V4 res.1)), (eB res.2.1)]) :=
 ar (au Tryz.func305 Q13.eq_2 (.o (.o (.o (.o (.o (.o (.o (.i .z (.i .z (.o (.i .z (.j 8 0 [0, 3, 4, 7, 12, 14] [0, 9, 9000] (fun (s23 : (List Q9)) => [(14, .sl 3 9000 (s23).length)]) (fun s23 => [(9000, some ⟨3, (List.map V4 s23), 0, 0x0164⟩)]) (.i .z (.i .z (.pN 14 3 0x0164 .z))) (fun s23 => .ls 60 (.f [14] [0, 2] [0, 3, 4, 7, 12, 14, 60, 61, 62] [0, 1, 2] (fun (k247 : Nat) (s243 : Int × (List Q9)) => [(14, .sl 3 2 (s243.2).length), (62, eI (k247 : Int))]) (fun k247 s243 => [(0, some ⟨1, [[(eI s243.1)]], 0, 0x0003⟩), (2, some ⟨3, (List.map V4 s243.2), 0, 0x0164⟩)]) (fun k247 s243 => .o (.j 12 0 [0, 3, 4, 7, 12, 14, 60, 61, 62] [0, 1, 2] (fun (s268 : Int × (List Q9)) => [(14, .sl 3 2 (s268.2).length)]) (fun s268 => [(0, some ⟨1, [[(eI s268.1)]], 0, 0x0003⟩), (2, some ⟨3, (List.map V4 s268.2), 0, 0x0164⟩)]) (.g [0, 3, 4, 7, 12, 14, 15, 16, 60, 61, 62] [0, 1, 2, 35] [] [] (.o (.o (.d [0, 1, 2, 3, 4, 5, 6, 7, 8, 9, 10, 11, 12, 13, 14] [3] [] .z)))) (fun _ => .z))) (fun s251 => .ll 1 (.f [14] [0, 1] [14, 19, 99, 100, 101] [0, 1, 2] (fun (k372 : Nat) (s368 : (List Bool)) => [(101, eI (k372 : Int))]) (fun k372 s368 => [(2, some ⟨6, [(List.map cB s368)], 0, 0x0183⟩)]) (fun k372 s368 => .z) (fun s376 => .pF 1 .z))))))))))))))))))
end Go.Proofs.YtnackipaoepmfaaGreat
set_option linter.unusedSimpArgs false
set_option linter.unusedVariables false
namespace Go.Proofs.YtnackipaoepmfaaGreat
open Go Go.RowKit
set_option maxRecDepth 100000
set_option maxHeartbeats 20000000
instance X6r : ∀ (n : Nat) (p0 : (List Q3)) (p1 : Q5) (p2 : Q0), Ct (Q2u n p0 p1 p2) fun res => Z1 Tryz.prog 0o00370 [(.slice 2 (List.map V0 p0)), (.agg (W9 p1)), (.agg (Q8 p2))] (fun d => d = .tup [(.slice 3 (List.map V4 res.1)), (eB res.2)]) :=
 au Tryz.func248 Q2u.eq_1 .z
end Go.Proofs.YtnackipaoepmfaaGreat
set_option linter.unusedSimpArgs false
set_option linter.unusedVariables false
namespace Go.Proofs.YtnackipaoepmfaaGreat
open Go Go.RowKit
set_option maxRecDepth 100000
set_option maxHeartbeats 20000000
instance W4f : ∀ (p0 : Q2i) (p1 : (List Q9)), Ct (Q56 p0 p1) fun res => Z1 Tryz.prog 0o00371 [(.agg (Q6t p0)), (.slice 3 (List.map V4 p1))] (fun d => d = (eB res)) :=
 au Tryz.func249 Q56.eq_1 .z
end Go.Proofs.YtnackipaoepmfaaGreat
set_option linter.unusedSimpArgs false
set_option linter.unusedVariables false
namespace Go.Proofs.YtnackipaoepmfaaGreat
open Go Go.RowKit
set_option maxRecDepth 100000
set_option maxHeartbeats 20000000
instance W28 : ∀ (n : Nat) (p0 : (List Q3)) (p1 : Q5) (p2 : Q7), Ct (Q3h n p0 p1 p2) fun res => Z1 Tryz.prog 0o00236 [(.slice 2 (List.map V0 p0)), (.agg (W9 p1)), (.agg (V6 p2))] (fun d => d = (eB res)) :=
 au Tryz.func158 Q3h.eq_1 .z
end Go.Proofs.YtnackipaoepmfaaGreat
set_option linter.unusedSimpArgs false
set_option linter.unusedVariables false
namespace Go.Proofs.YtnackipaoepmfaaGreat
open Go Go.RowKit
set_option maxRecDepth 100000
set_option maxHeartbeats 20000000
instance X2x : ∀ (n : Nat) (p0 : Q7) (q0 : (List Q3)) (q1 : Q5), Ct (Q2w n p0 q0 q1) fun res => Z1 Tryz.prog 0o00235 [(.agg (V6 p0)), .cptr [(.slice 2 (List.map V0 q0))], .cptr (W9 q1)] (fun d => d = (eB res)) :=
 au Tryz.func157 Q2w.eq_1 .z
end Go.Proofs.YtnackipaoepmfaaGreat
set_option linter.unusedSimpArgs false
set_option linter.unusedVariables false
namespace Go.Proofs.YtnackipaoepmfaaGreat
open Go Go.RowKit
set_option maxRecDepth 100000
set_option maxHeartbeats 20000000
instance X51 : ∀ (n : Nat) (p0 : (List Q3)) (p1 : Q5) (p2 : (List Q7)), Ct (Q1g n p0 p1 p2) fun res => Z1 Tryz.prog 0o00111 [(.slice 2 (List.map V0 p0)), (.agg (W9 p1)), (.slice 9 (List.map V6 p2))] (fun d => d = (eB res)) :=
 au Tryz.func73 Q1g.eq_1 .z
end Go.Proofs.YtnackipaoepmfaaGreat
set_option linter.unusedSimpArgs false
set_option linter.unusedVariables false
namespace Go.Proofs.YtnackipaoepmfaaGreat
open Go Go.RowKit
set_option maxRecDepth 100000
set_option maxHeartbeats 20000000
instance X9z : ∀ (p0 : (List Int)) (p1 : Q5), Ct (Q3y p0 p1) fun res => Z1 Tryz.prog 0o00415 [.cptr (List.map cI p0), (.agg (W9 p1))] (fun d => d = (eI res)) :=
 au Tryz.func269 Q3y.eq_1 (.o (.o (.i .z (.g [0, 3] [0] [] [] (.o (.d [0, 1, 2, 3, 4, 5, 6, 7, 8, 9] [0] [] .z))))))
end Go.Proofs.YtnackipaoepmfaaGreat
set_option linter.unusedSimpArgs false
set_option linter.unusedVariables false
namespace Go.Proofs.YtnackipaoepmfaaGreat
open Go Go.RowKit
set_option maxRecDepth 100000
set_option maxHeartbeats 20000000
instance X3y : ∀ (p0 : (List Int)) (p1 : (List Q3)) (p2 : Q5) (p3 : Int), Ct (Q0j p0 p1 p2 p3) fun res => Z1 Tryz.prog 0o00414 [.cptr (List.map cI p0), (.slice 2 (List.map V0 p1)), (.agg (W9 p2)), (eI p3)] (fun d => d = (eI res)) :=
 au Tryz.func268 Q0j.eq_1 (.o (.o (.o (.o (.o (.ls 16 (.f [9] [] [0, 9, 16, 17, 18] [] (fun (k68 : Nat) (s64 : Int) => [(9, eI s64), (18, eI (k68 : Int))]) (fun k68 s64 => []) (fun k68 s64 => .z) (fun s72 => .z))))))))
end Go.Proofs.YtnackipaoepmfaaGreat
set_option linter.unusedSimpArgs false
set_option linter.unusedVariables false
namespace Go.Proofs.YtnackipaoepmfaaGreat
open Go Go.RowKit
set_option maxRecDepth 100000
set_option maxHeartbeats 20000000
instance W26 : ∀ (n : Nat) (p0 : (List Q3)), Ct (Q4k n p0) fun res => Z1 Tryz.prog 0o00310 [(.slice 2 (List.map V0 p0))] (fun d => d = .cptr (List.map cI res)) :=
 au Tryz.func200 Q4k.eq_1 (.o (.o (.w [3] [16] [0, 3, 4] [16] (fun (s26777 : (List Int) × Bool) => [(4, eB s26777.2)]) (fun s26777 => [(16, some ⟨16, [(List.map cI s26777.1)], 0, 0x0137⟩)]) (fun s26777 => .i (.ls 0 (.f [0, 3, 4] [0] [0, 3, 4, 15, 16] [0] (fun (k30356 : Nat) (s30352 : (List Int) × Bool) => [(4, eB s30352.2), (16, eI (k30356 : Int))]) (fun k30356 s30352 => [(0, some ⟨16, [(List.map cI s30352.1)], 0, 0x0137⟩)]) (fun k30356 s30352 => .o (.w [0, 3, 4, 15, 16] [0] [0, 3, 4, 5, 6, 15, 16] [0] (fun (s31838 : (List Int) × Bool × Int) => [(4, eB s31838.2.1), (6, eI s31838.2.2)]) (fun s31838 => [(0, some ⟨16, [(List.map cI s31838.1)], 0, 0x0137⟩)]) (fun s31838 => .i (.o (.ls 28 (.f [0, 3, 4, 5, 6, 15, 16] [0] [0, 3, 4, 5, 6, 7, 15, 16, 28, 29, 30] [0, 41] (fun (k32093 : Nat) (s32089 : (List Int) × Bool) => [(4, eB s32089.2), (30, eI (k32093 : Int))]) (fun k32093 s32089 => [(0, some ⟨16, [(List.map cI s32089.1)], 0, 0x0137⟩)]) (fun k32093 s32089 => .o (.j 14 0 [0, 3, 4, 5, 6, 7, 15, 16, 28, 29, 30] [0, 1] (fun (s32117 : (List Int) × Bool) => [(4, eB s32117.2)]) (fun s32117 => [(0, some ⟨16, [(List.map cI s32117.1)], 0, 0x0137⟩)]) .z (fun _ => .z))) (fun s32097 => .z)))) .z) (fun s31846 => .z))) (fun s30360 => .z))) .z) (fun s26785 => .z))))
end Go.Proofs.YtnackipaoepmfaaGreat
set_option linter.unusedSimpArgs false
set_option linter.unusedVariables false
namespace Go.Proofs.YtnackipaoepmfaaGreat
open Go Go.RowKit
set_option maxRecDepth 100000
set_option maxHeartbeats 20000000
instance X9x : ∀ (n : Nat) (p0 : (List Q3)), Ct (Q3x n p0) fun res => Z1 Tryz.prog 0o00152 [(.slice 2 (List.map V0 p0))] (fun d => d = .cptr (Q6i res)) :=
 au Tryz.func106 Q3x.eq_1 .z
end Go.Proofs.YtnackipaoepmfaaGreat
set_option linter.unusedSimpArgs false
set_option linter.unusedVariables false
namespace Go.Proofs.YtnackipaoepmfaaGreat
open Go Go.RowKit
set_option maxRecDepth 100000
set_option maxHeartbeats 20000000
instance X8m : ∀ (n : Nat) (p0 : Q0), Ct (Q0v n p0) fun res => Z1 Tryz.prog 0o00306 [(.agg (Q8 p0))] (fun d => d = (eI res)) :=
 ar (au Tryz.func198 Q0v.eq_2 (.o (.o (.o (.j 2 0 [1, 3] [0] (fun (s2 : Int) => [(3, eI s2)]) (fun _ => []) .z (fun s2 => .ls 10 (.f [3] [] [1, 3, 10, 11, 12] [0] (fun (k86 : Nat) (s82 : Int) => [(3, eI s82), (12, eI (k86 : Int))]) (fun k86 s82 => []) (fun k86 s82 => .o (.j 6 0 [1, 3, 10, 11, 12] [0] (fun (s94 : Int) => [(3, eI s94)]) (fun _ => []) .z (fun _ => .z))) (fun s90 => .z))))))))
end Go.Proofs.YtnackipaoepmfaaGreat
set_option linter.unusedSimpArgs false
set_option linter.unusedVariables false
namespace Go.Proofs.YtnackipaoepmfaaGreat
open Go Go.RowKit
set_option maxRecDepth 100000
set_option maxHeartbeats 20000000
theorem Q9t (p0 : (List Q0)) (res : (List Q0)) (h : J8 p0 = some res) : J6 Tryz.prog 0o00334 [] [(.slice 6 (List.map Q8 p0))] (fun H d => H = [some ⟨6, List.map Q8 res, 0, 0x0033⟩] ∧ d = .sl 6 0 res.length) := by
 unfold J8 at h
 refine CH Tryz.func220 [.tmp 2] 0 fun β hβ => ?_
 refine sZ ?_
 apply sq
 refine sk fun K hK => ?_
 simp
 refine ⟨?_, fun hnil => ?_⟩
 ·apply hK
  refine cF ?_
  apply TrD.skip
  apply sq
  obtain ⟨x3, hx3, h⟩ := bindE h
  have hx3_r := (Q86 hx3).2
  try simp only [List.length_nil, Nat.zero_add] at hx3_r
  obtain hhx3 := Z7w hx3
  subst hhx3
  refine rZ ?_ fun K hK => by simp [hx3_r]; exact hK
  cases h
  apply TrD.ret
  refine Z4z (σ' := ⟨(updD (fun _ => .any) 2 (.sl 6 0 (p0).length)), hOfO [some ⟨6, (List.map Q8 p0), 0, 0x0033⟩], 1, 8⟩) ?_ ?_
  ·exact gC [40]
  dsimp only [resD]
  exact eA
 replace h : some ([]) = some res := by simp only [hnil] at h; simpa [app] using h
 apply hK
 refine cT ?_
 refine sZ ?_
 cases h
 apply TrD.ret
 refine Z4z (σ' := ⟨(updD (fun _ => .any) 2 (.sl 6 0 0)), hOfO [some ⟨6, (List.map Q8 []), 0, 0x0033⟩], 1, 8⟩) ?_ ?_
 ·refine (Y5.ownNil (s := 2) (by simp) 6 0x0033).trans ?_
  exact gC [32]
 dsimp only [resD]
 exact eA
instance X1e : ∀ (p0 : (List Q0)), Ct (J8 p0) fun res => J6 Tryz.prog 0o00334 [] [(.slice 6 (List.map Q8 p0))] (fun H d => H = [some ⟨6, List.map Q8 res, 0, 0x0033⟩] ∧ d = .sl 6 0 res.length) := fun p0 => ⟨Q9t p0⟩
end Go.Proofs.YtnackipaoepmfaaGreat
set_option linter.unusedSimpArgs false
set_option linter.unusedVariables false
namespace Go.Proofs.YtnackipaoepmfaaGreat
open Go Go.RowKit
set_option maxRecDepth 100000
set_option maxHeartbeats 20000000
instance W8k : ∀ (n : Nat) (p0 : Q0), Ct (Q24 n p0) fun res => J6 Tryz.prog 0o00307 [] [(.agg (Q8 p0))] (fun H d => H = [some ⟨6, List.map Q8 res, 0, 0x0033⟩] ∧ d = .sl 6 0 res.length) :=
 ar (au Tryz.func199 Q24.eq_2 (.o (.o (.o (.i (.g [1] [0] [] [] (.o (.o (.o (.o (.o (.d [0, 1, 2, 3, 5, 6, 7, 8, 4, 9, 10, 11] [0] [] .z))))))) (.ls 29 (.f [4] [88] [4, 33, 34, 35] [88] (fun (k5018 : Nat) (s5014 : (List Q0)) => [(4, .sl 6 88 (s5014).length), (35, eI (k5018 : Int))]) (fun k5018 s5014 => [(88, some ⟨6, (List.map Q8 s5014), 0, 0x0033⟩)]) (fun k5018 s5014 => .o (.o (.pN 8 6 0x0033 (.ll 0 (.f [8, 33, 34, 35] [97] [7, 8, 33, 34, 35, 41, 42, 43] [50, 97, 0] (fun (k5936 : Nat) (s5932 : (List Q0)) => [(8, .sl 6 97 (s5932).length), (43, eI (k5936 : Int))]) (fun k5936 s5932 => [(97, some ⟨6, (List.map Q8 s5932), 0, 0x0033⟩)]) (fun k5936 s5932 => .o (.ll 0 (.f [7, 8, 33, 34, 35, 41, 42, 43] [0, 1, 2] [7, 8, 10, 33, 34, 35, 41, 42, 43, 47, 48, 49] [0, 1, 27, 2] (fun (k6006 : Nat) (s6002 : (List Q0)) => [(8, .sl 6 1 (s6002).length), (49, eI (k6006 : Int))]) (fun k6006 s6002 => [(1, some ⟨6, (List.map Q8 s6002), 0, 0x0033⟩)]) (fun k6006 s6002 => .o (.g [7, 8, 10, 12, 13, 33, 34, 35, 41, 42, 43, 47, 48, 49] [0, 1, 2, 28, 52, 3] [] [] (.o (.o (.dz [0, 1, 3, 2, 4, 5, 6, 7] [2, 3] [1048634] [] (.o (.pF 2097160 .z))))))) (fun s6010 => .z)))) (fun s5940 => .z)))))) (fun s5022 => .z))))))))
end Go.Proofs.YtnackipaoepmfaaGreat
set_option linter.unusedSimpArgs false
set_option linter.unusedVariables false
namespace Go.Proofs.YtnackipaoepmfaaGreat
open Go Go.RowKit
set_option maxRecDepth 100000
set_option maxHeartbeats 20000000
instance X4z : ∀ (n : Nat) (p0 : (List Q7)), Ct (Q1e n p0) fun res => Z1 Tryz.prog 0o00170 [(.slice 9 (List.map V6 p0))] (fun d => d = .tup [(.slice 1 (List.map (rL 6 Q8) res.1)), (eB res.2)]) :=
 au Tryz.func120 Q1e.eq_1 (.o (.o (.pN 4 1 0x0031 (.ls 0 (.f [4] [48] [4, 7, 8, 9] [48] (fun (k96 : Nat) (s92 : (List (List Q0))) => [(4, .sl 1 48 (s92).length), (9, eI (k96 : Int))]) (fun k96 s92 => [(48, some ⟨1, (List.map (rL 6 Q8) s92), 0, 0x0031⟩)]) (fun k96 s92 => .o (.o (.i .z (.o (.o (.pF 98 .z)))))) (fun s100 => .z))))))
end Go.Proofs.YtnackipaoepmfaaGreat
set_option linter.unusedSimpArgs false
set_option linter.unusedVariables false
namespace Go.Proofs.YtnackipaoepmfaaGreat
open Go Go.RowKit
set_option maxRecDepth 100000
set_option maxHeartbeats 20000000
set_option maxRecDepth 100000 in
theorem Q9l (p0 : (List Q1)) (res : (List Q1)) (h : Q04 p0 = some res) : J6 Tryz.prog 0o00332 [] [(.slice 2 (List.map Z2 p0))] (fun H d => H = [some ⟨2, List.map Z2 res, 0, 0x010a⟩] ∧ d = .sl 2 0 res.length) := by
  unfold Q04 at h
  refine J6.of (res := [.tmp 2]) Q7c Tryz.func218 (by decide) rfl (Nat.le_of_ble_eq_true rfl) rfl rfl (fun β hβ => ?_)
  refine TrD.seq ?_
  refine TrD.regK Q7c (fun K hK => ?_)
  simp
  refine hK _ ?_
  refine TrD.seq ?_
  refine TrD.seq ?_
  refine TrD.regK Q7c (fun K hK => ?_)
  simp
  refine ⟨?_, fun hnil => ?_⟩
  · refine hK _ ?_
    refine TrD.cond (b := false) (by simp) (fun hb => by cases hb) (fun hb => ?_)
    refine TrD.skip ?_
    refine TrD.seq ?_
    obtain ⟨x3, hx3, h⟩ := bindE h
    have hx3_r := (Q86 hx3).2
    try simp only [List.length_append, List.length_cons, List.length_nil, List.length_map, Nat.zero_add, Nat.add_zero, Nat.reduceAdd, Z1m, Z1c] at hx3_r
    obtain hhx3 := Z7w hx3
    subst hhx3
    refine TrD.regK Q7c (fun K hK => ?_)
    simp [hx3_r]
    refine hK _ ?_
    obtain rfl := Option.some.inj h
    refine TrD.ret ?_
    refine Z4z (σ' := ⟨(updD (fun _ => .any) 2 (.sl 2 0 (p0).length)), hOfO [some ⟨2, (List.map Z2 p0), 0, 0x010a⟩], 1, 8⟩) ?_ ?_
    · exact Y5.canonV 0 [40] _ _ hβ (Q5q (by decide)) (by decide) (Q8i (v_of (d0 := (.sl 2 40 (p0).length)) (by simp [hx3_r]) (v_sl rfl)) (Z4j _)) (.cons (lv (L := ⟨2, (List.map Z2 p0), 0, 0x010a⟩) (by simp [hx3_r]) rfl rfl (by simp [hx3_r]) (Q5d (by simp [hx3_r]) (Q4 Q6q _))) .nil)
    · dsimp only [resD]
      exact ⟨[some ⟨2, (List.map Z2 p0), 0, 0x010a⟩], [], rfl, by simp, by simp, .inl rfl, by simp [Q7v]⟩
  · replace h : some ([]) = some res := by simp only [hnil] at h; simpa [app] using h
    refine hK _ ?_
    refine TrD.cond (b := true) (by simp) (fun hb => ?_) (fun hb => by cases hb)
    refine TrD.seq ?_
    refine TrD.regK Q7c (fun K hK => ?_)
    simp
    refine hK _ ?_
    obtain rfl := Option.some.inj h
    refine TrD.ret ?_
    refine Z4z (σ' := ⟨(updD (fun _ => .any) 2 (.sl 2 0 0)), hOfO [some ⟨2, (List.map Z2 []), 0, 0x010a⟩], 1, 8⟩) ?_ ?_
    · refine (Y5.ownNil (s := 2) (by simp) 2 0x010a).trans ?_
      exact Y5.canonV 0 [32] _ _ hβ (Q5q (by decide)) (by decide) (Q8i (v_of (d0 := (.sl 2 32 0)) (by simp) (v_sl rfl)) (Z4j _)) (.cons (lv (L := ⟨2, (List.map Z2 []), 0, 0x010a⟩) (by simp) rfl rfl (by simp) (Q5d (by simp) (Q4 Q6q _))) .nil)
    · dsimp only [resD]
      exact ⟨[some ⟨2, (List.map Z2 []), 0, 0x010a⟩], [], rfl, by simp, by simp, .inl rfl, by simp [Q7v]⟩
instance X0h : ∀ (p0 : (List Q1)), Ct (Q04 p0) fun res => J6 Tryz.prog 0o00332 [] [(.slice 2 (List.map Z2 p0))] (fun H d => H = [some ⟨2, List.map Z2 res, 0, 0x010a⟩] ∧ d = .sl 2 0 res.length) := fun p0 => ⟨Q9l p0⟩
end Go.Proofs.YtnackipaoepmfaaGreat
set_option linter.unusedSimpArgs false
set_option linter.unusedVariables false
namespace Go.Proofs.YtnackipaoepmfaaGreat
open Go Go.RowKit
set_option maxRecDepth 100000
set_option maxHeartbeats 20000000
set_option maxRecDepth 100000 in
theorem Z3i (p0 : (List Int)) (res : (List Int)) (h : J9 p0 = some res) : J6 Tryz.prog 0o00333 [] [(.slice 1 (List.map rI p0))] (fun H d => H = [some ⟨1, List.map rI res, 0, 0x0003⟩] ∧ d = .sl 1 0 res.length) := by
  unfold J9 at h
  refine J6.of (res := [.tmp 2]) Q7c Tryz.func219 (by decide) rfl (Nat.le_of_ble_eq_true rfl) rfl rfl (fun β hβ => ?_)
  refine TrD.seq ?_
  refine TrD.regK Q7c (fun K hK => ?_)
  simp
  refine hK _ ?_
  refine TrD.seq ?_
  refine TrD.seq ?_
  refine TrD.regK Q7c (fun K hK => ?_)
  simp
  refine ⟨?_, fun hnil => ?_⟩
  · refine hK _ ?_
    refine TrD.cond (b := false) (by simp) (fun hb => by cases hb) (fun hb => ?_)
    refine TrD.skip ?_
    refine TrD.seq ?_
    obtain ⟨x3, hx3, h⟩ := bindE h
    have hx3_r := (Q86 hx3).2
    try simp only [List.length_append, List.length_cons, List.length_nil, List.length_map, Nat.zero_add, Nat.add_zero, Nat.reduceAdd, Z1m, Z1c] at hx3_r
    obtain hhx3 := Z7w hx3
    subst hhx3
    refine TrD.regK Q7c (fun K hK => ?_)
    simp [hx3_r]
    refine hK _ ?_
    obtain rfl := Option.some.inj h
    refine TrD.ret ?_
    refine Z4z (σ' := ⟨(updD (fun _ => .any) 2 (.sl 1 0 (p0).length)), hOfO [some ⟨1, (List.map rI p0), 0, 0x0003⟩], 1, 8⟩) ?_ ?_
    · exact Y5.canonV 0 [40] _ _ hβ (Q5q (by decide)) (by decide) (Q8i (v_of (d0 := (.sl 1 40 (p0).length)) (by simp [hx3_r]) (v_sl rfl)) (Z4j _)) (.cons (lv (L := ⟨1, (List.map rI p0), 0, 0x0003⟩) (by simp [hx3_r]) rfl rfl (by simp [hx3_r]) (Q5d (by simp [hx3_r]) (Q4 (fun _ => by simp) _))) .nil)
    · dsimp only [resD]
      exact ⟨[some ⟨1, (List.map rI p0), 0, 0x0003⟩], [], rfl, by simp, by simp, .inl rfl, by simp [Q7v]⟩
  · replace h : some ([]) = some res := by simp only [hnil] at h; simpa [app] using h
    refine hK _ ?_
    refine TrD.cond (b := true) (by simp) (fun hb => ?_) (fun hb => by cases hb)
    refine TrD.seq ?_
    refine TrD.regK Q7c (fun K hK => ?_)
    simp
    refine hK _ ?_
    obtain rfl := Option.some.inj h
    refine TrD.ret ?_
    refine Z4z (σ' := ⟨(updD (fun _ => .any) 2 (.sl 1 0 0)), hOfO [some ⟨1, (List.map rI []), 0, 0x0003⟩], 1, 8⟩) ?_ ?_
    · refine (Y5.ownNil (s := 2) (by simp) 1 0x0003).trans ?_
      exact Y5.canonV 0 [32] _ _ hβ (Q5q (by decide)) (by decide) (Q8i (v_of (d0 := (.sl 1 32 0)) (by simp) (v_sl rfl)) (Z4j _)) (.cons (lv (L := ⟨1, (List.map rI []), 0, 0x0003⟩) (by simp) rfl rfl (by simp) (Q5d (by simp) (Q4 (fun _ => by simp) _))) .nil)
    · dsimp only [resD]
      exact ⟨[some ⟨1, (List.map rI []), 0, 0x0003⟩], [], rfl, by simp, by simp, .inl rfl, by simp [Q7v]⟩
instance X6q : ∀ (p0 : (List Int)), Ct (J9 p0) fun res => J6 Tryz.prog 0o00333 [] [(.slice 1 (List.map rI p0))] (fun H d => H = [some ⟨1, List.map rI res, 0, 0x0003⟩] ∧ d = .sl 1 0 res.length) := fun p0 => ⟨Z3i p0⟩
end Go.Proofs.YtnackipaoepmfaaGreat
set_option linter.unusedSimpArgs false
set_option linter.unusedVariables false
namespace Go.Proofs.YtnackipaoepmfaaGreat
open Go Go.RowKit
set_option maxRecDepth 100000
set_option maxHeartbeats 20000000
instance X8n : Ct (Q27) fun res => Z1 Tryz.prog 0o00136 [] (fun d => d = (.agg (Q8 res))) :=
 au Tryz.func94 Q27.eq_1 .z
end Go.Proofs.YtnackipaoepmfaaGreat
set_option linter.unusedSimpArgs false
set_option linter.unusedVariables false
namespace Go.Proofs.YtnackipaoepmfaaGreat
open Go Go.RowKit
set_option maxRecDepth 100000
set_option maxHeartbeats 20000000
instance X9w : ∀ (n : Nat) (p0 : Grow) (p1 : Q0) (p2 : (List Int)), Ct (Q1x n p0 p1 p2) fun res => J6 Tryz.prog 0o00171 [] [(.agg (Q3n p0)), (.agg (Q8 p1)), (.slice 1 (List.map rI p2))] (fun H d => H = [some ⟨6, List.map Q8 res.pats, 0, 0x0033⟩] ∧ d = .agg [(eI res.clause), .sl 6 0 res.pats.length, (.slice 2 (List.map Z2 res.binds))]) :=
 au Tryz.func121 Q1x.eq_1 (.o (.b fun (p0 : Grow) => .o (.o (.w [3, 4, 6] [0, 8, 16] [2, 3, 4, 6] [0, 8, 16] (fun (s42 : (List Q1) × Q0) => []) (fun s42 => [(0, some ⟨3, [[(eI p0.clause), (.slice 6 (List.map Q8 p0.pats)), (.slice 2 (List.map Z2 s42.1))]], 0, 0x00a6⟩), (8, some ⟨6, [(Q8 s42.2)], 0, 0x0033⟩)]) (fun s42 => .j 1 0 [2, 3, 4, 6] [0, 1, 2] (fun (s56 : Unit) => []) (fun _ => []) .z (fun s56 => .g [2, 3, 4, 6] [0, 1, 2] [] [] (.o (.o (.o (.d [0, 1, 3, 4, 5, 2, 6, 7, 8, 9, 10, 11] [0, 1] [25] (.i (.o (.pF 12 (.pF 27 .z))) (.o (.pF 12 (.pF 27 .z)))))))))) (fun s50 => .g [3, 4, 6] [0, 1, 2] [] [] (.o (.o (.dz [0, 1, 3, 2, 4, 5, 6, 7] [0, 1] [1048614] [40] .z))))))))
end Go.Proofs.YtnackipaoepmfaaGreat
