import Derived.Test.YtnackipaoepmfaaGreatGJMir
import Derived.Test.YtnackipaoepmfaaGreatGJAuto
import Derived.Test.YtnackipaoepmfaaGreatGJC0a0
import Derived.Test.YtnackipaoepmfaaGreatGJC0d0
import Derived.Test.YtnackipaoepmfaaGreatGJC0b0
import Derived.Test.YtnackipaoepmfaaGreatGJC0c0
set_option linter.unusedSimpArgs false
set_option linter.unusedVariables false
set_option linter.unusedSimpArgs false
set_option linter.unusedVariables false
namespace Go.Proofs.YtnackipaoepmfaaGreat
open Go Go.RowKit
set_option maxRecDepth 100000
set_option maxHeartbeats 20000000
instance W42 : ∀ (p0 : (List Int)) (p1 : Q2), Ct (Q1f p0 p1) fun res => Q9 Tryz.prog 0o00233 [(.slice 1 (List.map rI p0)), (.agg (Z6 p1))] (fun d => d = (eI res)) :=
 au Tryz.func155 Q1f.eq_1 .z
end Go.Proofs.YtnackipaoepmfaaGreat
set_option linter.unusedSimpArgs false
set_option linter.unusedVariables false
namespace Go.Proofs.YtnackipaoepmfaaGreat
open Go Go.RowKit
set_option maxRecDepth 100000
set_option maxHeartbeats 20000000
instance X9x : ∀ (n : Nat) (p0 : ByteArray), Ct (Q6m n p0) fun res => Q9 Tryz.prog 0o00476 [(eS p0)] (fun d => d = (eB res)) :=
 au Tryz.func318 Q6m.eq_1 (.o (.o (.o (.i .z (.o (.i .z (.i .z (.w [] [] [0, 3] [] (fun (s132 : Int) => [(3, eI s132)]) (fun s132 => []) (fun s132 => .z) (fun s140 => .z)))))))))
end Go.Proofs.YtnackipaoepmfaaGreat
set_option linter.unusedSimpArgs false
set_option linter.unusedVariables false
namespace Go.Proofs.YtnackipaoepmfaaGreat
open Go Go.RowKit
set_option maxRecDepth 100000
set_option maxHeartbeats 20000000
instance W8e : ∀ (p0 : (List Q3)) (p1 : Q2), Ct (Q9x p0 p1) fun res => Q9 Tryz.prog 0o00500 [(.slice 2 (List.map X0 p0)), (.agg (Z6 p1))] (fun d => d = (eB res)) :=
 au Tryz.func320 Q9x.eq_1 .z
end Go.Proofs.YtnackipaoepmfaaGreat
set_option linter.unusedSimpArgs false
set_option linter.unusedVariables false
namespace Go.Proofs.YtnackipaoepmfaaGreat
open Go Go.RowKit
set_option maxRecDepth 100000
set_option maxHeartbeats 20000000
instance X1v : ∀ (p0 : (List Int)) (p1 : Int), Ct (J1 p0 p1) fun res => Q9 Tryz.prog 0o00157 [(.slice 1 (List.map rI p0)), (eI p1)] (fun d => d = (eB res)) :=
 au Tryz.func111 J1.eq_1 .z
end Go.Proofs.YtnackipaoepmfaaGreat
set_option linter.unusedSimpArgs false
set_option linter.unusedVariables false
namespace Go.Proofs.YtnackipaoepmfaaGreat
open Go Go.RowKit
set_option maxRecDepth 100000
set_option maxHeartbeats 20000000
instance X47 : ∀ (p0 : Q0t) (p1 : Q2) (p2 : Int), Ct (Q2d p0 p1 p2) fun res => Q9 Tryz.prog 0o00421 [.cptr (Q1n p0), (.agg (Z6 p1)), (eI p2)] (fun d => d = (.agg (Q1 res))) :=
 au Tryz.func273 Q2d.eq_1 (.o (.o (.b fun (p2 : Int) => .g [0, 2, 4, 6, 7] [0, 8, 32] [] [] (.o (.d [0, 1, 2, 3, 4, 5, 8, 6, 7] [0] [] (.pC 2 5 6 0x0033 (.ls 16 (.f [6, 7] [1, 2, 11] [6, 7, 17, 18] [1, 2, 11] (fun (k50 : Nat) (s46 : (List Q0)) => [(18, eI (k50 : Int))]) (fun k50 s46 => [(1000000002, some ⟨6, [[(eI 4), (eI p2), (eI 0), (eI 0), (eI 0), (.sl 6 11 (s46).length)]], 0, 0x0033⟩), (11, some ⟨6, (List.map Q1 s46), 0, 0x0033⟩)]) (fun k50 s46 => .o (.g [6, 7, 17, 18] [0, 1, 2] [] [(1000000001, some ⟨6, [[(eI 4), (eI p2), (eI 0), (eI 0), (eI 0), (.sl 6 2 (s46).length)]], 0, 0x0033⟩)] (.o (.o (.d [0, 1, 2, 3, 4, 5, 6] [1] [25] .z))))) (fun s54 => .z)))))))))
end Go.Proofs.YtnackipaoepmfaaGreat
set_option linter.unusedSimpArgs false
set_option linter.unusedVariables false
namespace Go.Proofs.YtnackipaoepmfaaGreat
open Go Go.RowKit
set_option maxRecDepth 100000
set_option maxHeartbeats 20000000
instance X6g : ∀ (n : Nat) (p0 : Q0t) (p1 : Q2) (p2 : Q0) (p3 : Q0), Ct (W2 n p0 p1 p2 p3) fun res => Q9 Tryz.prog 0o00265 [.cptr (Q1n p0), (.agg (Z6 p1)), (.agg (Q1 p2)), (.agg (Q1 p3))] (fun d => d = .tup [(.agg (Q1 res.1)), (eB res.2)]) :=
 ar (au Tryz.func181 W2.eq_2 (.o (.o (.o (.o (.b fun (p2 : Q0) => .o (.i .z (.i .z (.i .z (.i .z (.g [0, 5, 6, 7, 8, 11] [0, 8, 16, 24, 208] [] [] (.o (.d [0, 1, 2, 3, 4, 5, 6, 9, 7, 8] [0, 1] [] (.pC 4 5 6 0x0033 (.ls 66 (.f [8, 11] [3, 4, 13] [0, 6, 7, 8, 11, 66, 67, 68] [1, 2, 3, 4, 13] (fun (k114 : Nat) (s110 : (List Q0)) => [(68, eI (k114 : Int))]) (fun k114 s110 => [(1000000004, some ⟨6, [[(eI 4), (eI p2.ctor), (eI 0), (eI 0), (eI 0), (.sl 6 13 (s110).length)]], 0, 0x0033⟩), (13, some ⟨6, (List.map Q1 s110), 0, 0x0033⟩)]) (fun k114 s110 => .o (.g [0, 6, 7, 8, 11, 12, 13, 66, 67, 68] [0, 1, 2, 3, 4, 37] [] [(1000000003, some ⟨6, [[(eI 4), (eI p2.ctor), (eI 0), (eI 0), (eI 0), (.sl 6 4 (s110).length)]], 0, 0x0033⟩)] (.o (.o (.o (.dz [0, 1, 2, 3, 4, 5, 6, 7, 8, 9, 10, 11, 12, 13, 14, 15, 16, 17, 18] [0, 1, 5] [1048590] [] .z)))))) (fun s118 => .z)))))))))))))))))
end Go.Proofs.YtnackipaoepmfaaGreat
set_option linter.unusedSimpArgs false
set_option linter.unusedVariables false
namespace Go.Proofs.YtnackipaoepmfaaGreat
open Go Go.RowKit
set_option maxRecDepth 100000
set_option maxHeartbeats 20000000
instance X8k : ∀ (n : Nat) (p0 : (List Q5)), Ct (Q26 n p0) fun res => Q0k Tryz.prog 0o00135 [] [(.slice 9 (List.map Z8 p0))] (fun H d => H = [some ⟨9, List.map Z8 res, 0, 0x0037⟩] ∧ d = .sl 9 0 res.length) :=
 au Tryz.func93 Q26.eq_1 (.o (.o (.pN 3 9 0x0037 (.ls 0 (.f [3] [40] [3, 6, 7, 8] [40] (fun (k56 : Nat) (s52 : (List Q5)) => [(3, .sl 9 40 (s52).length), (8, eI (k56 : Int))]) (fun k56 s52 => [(40, some ⟨9, (List.map Z8 s52), 0, 0x0037⟩)]) (fun k56 s52 => .o (.g [3, 5, 6, 7, 8] [0, 25] [] [] (.o (.o (.d [0, 1, 2, 4, 5, 3, 6, 7, 8, 9] [1] [] .z))))) (fun s60 => .z))))))
end Go.Proofs.YtnackipaoepmfaaGreat
set_option linter.unusedSimpArgs false
set_option linter.unusedVariables false
namespace Go.Proofs.YtnackipaoepmfaaGreat
open Go Go.RowKit
set_option maxRecDepth 100000
set_option maxHeartbeats 20000000
instance W9w : ∀ (p0 : (List Q3)) (p1 : Q2), Ct (Q7b p0 p1) fun res => Q9 Tryz.prog 0o00401 [(.slice 2 (List.map X0 p0)), (.agg (Z6 p1))] (fun d => d = (eB res)) :=
 au Tryz.func257 Q7b.eq_1 .z
end Go.Proofs.YtnackipaoepmfaaGreat
set_option linter.unusedSimpArgs false
set_option linter.unusedVariables false
namespace Go.Proofs.YtnackipaoepmfaaGreat
open Go Go.RowKit
set_option maxRecDepth 100000
set_option maxHeartbeats 20000000
instance W85 : ∀ (n : Nat) (p0 : (List Q0)), Ct (Q3k n p0) fun res => Q9 Tryz.prog 0o00413 [(.slice 6 (List.map Q1 p0))] (fun d => d = (.slice 6 (List.map Q1 res))) :=
 au Tryz.func267 Q3k.eq_1 (.o (.o (.ls 0 (.f [3] [8] [0, 3, 4] [8] (fun (k56 : Nat) (s52 : (List Q0)) => [(3, .sl 6 8 (s52).length), (4, eI (k56 : Int))]) (fun k56 s52 => [(8, some ⟨6, (List.map Q1 s52), 0, 0x0033⟩)]) (fun k56 s52 => .z) (fun s60 => .z)))))
end Go.Proofs.YtnackipaoepmfaaGreat
set_option linter.unusedSimpArgs false
set_option linter.unusedVariables false
namespace Go.Proofs.YtnackipaoepmfaaGreat
open Go Go.RowKit
set_option maxRecDepth 100000
set_option maxHeartbeats 20000000
instance X8q : ∀ (p0 : Q3j) (p1 : (List W4)), Ct (Q29 p0 p1) fun res => Q9 Tryz.prog 0o00241 [(.agg (Q77 p0)), (.slice 4 (List.map Q1h p1))] (fun d => d = (eB res)) :=
 au Tryz.func161 Q29.eq_1 .z
end Go.Proofs.YtnackipaoepmfaaGreat
