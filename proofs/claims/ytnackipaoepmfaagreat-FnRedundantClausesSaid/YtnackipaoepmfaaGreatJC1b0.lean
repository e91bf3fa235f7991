import Derived.Test.YtnackipaoepmfaaGreatJMir
import Derived.Test.YtnackipaoepmfaaGreatJAuto
import Derived.Test.YtnackipaoepmfaaGreatJC0d0
import Derived.Test.YtnackipaoepmfaaGreatJC0a0
import Derived.Test.YtnackipaoepmfaaGreatJC0b0
import Derived.Test.YtnackipaoepmfaaGreatJC0c0
set_option linter.unusedSimpArgs false
set_option linter.unusedVariables false
set_option linter.unusedSimpArgs false
set_option linter.unusedVariables false
namespace Go.Proofs.YtnackipaoepmfaaGreat
open Go Go.RowKit
set_option maxRecDepth 100000
set_option maxHeartbeats 20000000
instance W47 : ∀ (p0 : (List Int)) (p1 : Q2), Ct (Q1j p0 p1) fun res => Q9 Tryz.prog 0o00233 [(.slice 1 (List.map rI p0)), (.agg (Z5 p1))] (fun d => d = (eI res)) :=
 au Tryz.func155 Q1j.eq_1 .z
end Go.Proofs.YtnackipaoepmfaaGreat
set_option linter.unusedSimpArgs false
set_option linter.unusedVariables false
namespace Go.Proofs.YtnackipaoepmfaaGreat
open Go Go.RowKit
set_option maxRecDepth 100000
set_option maxHeartbeats 20000000
instance W9t : ∀ (p0 : (List Q3)) (p1 : Q2), Ct (Q7e p0 p1) fun res => Q9 Tryz.prog 0o00401 [(.slice 2 (List.map X2 p0)), (.agg (Z5 p1))] (fun d => d = (eB res)) :=
 au Tryz.func257 Q7e.eq_1 .z
end Go.Proofs.YtnackipaoepmfaaGreat
set_option linter.unusedSimpArgs false
set_option linter.unusedVariables false
namespace Go.Proofs.YtnackipaoepmfaaGreat
open Go Go.RowKit
set_option maxRecDepth 100000
set_option maxHeartbeats 20000000
instance W6e : ∀ (p0 : (List Q3)) (p1 : Q2), Ct (Q5y p0 p1) fun res => Q9 Tryz.prog 0o00253 [(.slice 2 (List.map X2 p0)), (.agg (Z5 p1))] (fun d => d = (eB res)) :=
 au Tryz.func171 Q5y.eq_1 .z
end Go.Proofs.YtnackipaoepmfaaGreat
set_option linter.unusedSimpArgs false
set_option linter.unusedVariables false
namespace Go.Proofs.YtnackipaoepmfaaGreat
open Go Go.RowKit
set_option maxRecDepth 100000
set_option maxHeartbeats 20000000
instance W8b : ∀ (p0 : Int), Ct (Q5m p0) fun res => Q9 Tryz.prog 0o00555 [(eI p0)] (fun d => d = (eB res)) :=
 au Tryz.func365 Q5m.eq_1 .z
end Go.Proofs.YtnackipaoepmfaaGreat
set_option linter.unusedSimpArgs false
set_option linter.unusedVariables false
namespace Go.Proofs.YtnackipaoepmfaaGreat
open Go Go.RowKit
set_option maxRecDepth 100000
set_option maxHeartbeats 20000000
instance X4x : ∀ (p0 : Q14) (p1 : Q2) (p2 : Int), Ct (Q2g p0 p1 p2) fun res => Q9 Tryz.prog 0o00421 [.cptr (Q1p p0), (.agg (Z5 p1)), (eI p2)] (fun d => d = (.agg (Q1 res))) :=
 au Tryz.func273 Q2g.eq_1 (.o (.o (.b fun (p2 : Int) => .g [0, 2, 4, 6, 7] [0, 8, 32] [] [] (.o (.d [0, 1, 2, 3, 4, 5, 8, 6, 7] [0] [] (.pC 2 5 6 0x0033 (.ls 16 (.f [6, 7] [1, 2, 11] [6, 7, 17, 18] [1, 2, 11] (fun (k50 : Nat) (s46 : (List Q0)) => [(18, eI (k50 : Int))]) (fun k50 s46 => [(1000000002, some ⟨6, [[(eI 4), (eI p2), (eI 0), (eI 0), (eI 0), (.sl 6 11 (s46).length)]], 0, 0x0033⟩), (11, some ⟨6, (List.map Q1 s46), 0, 0x0033⟩)]) (fun k50 s46 => .o (.g [6, 7, 17, 18] [0, 1, 2] [] [(1000000001, some ⟨6, [[(eI 4), (eI p2), (eI 0), (eI 0), (eI 0), (.sl 6 2 (s46).length)]], 0, 0x0033⟩)] (.o (.o (.d [0, 1, 2, 3, 4, 5, 6] [1] [25] .z))))) (fun s54 => .z)))))))))
end Go.Proofs.YtnackipaoepmfaaGreat
set_option linter.unusedSimpArgs false
set_option linter.unusedVariables false
namespace Go.Proofs.YtnackipaoepmfaaGreat
open Go Go.RowKit
set_option maxRecDepth 100000
set_option maxHeartbeats 20000000
instance X6w : ∀ (n : Nat) (p0 : Q14) (p1 : Q2) (p2 : Q0) (p3 : Q0), Ct (W8 n p0 p1 p2 p3) fun res => Q9 Tryz.prog 0o00265 [.cptr (Q1p p0), (.agg (Z5 p1)), (.agg (Q1 p2)), (.agg (Q1 p3))] (fun d => d = .tup [(.agg (Q1 res.1)), (eB res.2)]) :=
 ar (au Tryz.func181 W8.eq_2 (.o (.o (.o (.o (.b fun (p2 : Q0) => .o (.i .z (.i .z (.i .z (.i .z (.g [0, 5, 6, 7, 8, 11] [0, 8, 16, 24, 208] [] [] (.o (.d [0, 1, 2, 3, 4, 5, 6, 9, 7, 8] [0, 1] [] (.pC 4 5 6 0x0033 (.ls 66 (.f [8, 11] [3, 4, 13] [0, 6, 7, 8, 11, 66, 67, 68] [1, 2, 3, 4, 13] (fun (k114 : Nat) (s110 : (List Q0)) => [(68, eI (k114 : Int))]) (fun k114 s110 => [(1000000004, some ⟨6, [[(eI 4), (eI p2.ctor), (eI 0), (eI 0), (eI 0), (.sl 6 13 (s110).length)]], 0, 0x0033⟩), (13, some ⟨6, (List.map Q1 s110), 0, 0x0033⟩)]) (fun k114 s110 => .o (.g [0, 6, 7, 8, 11, 12, 13, 66, 67, 68] [0, 1, 2, 3, 4, 37] [] [(1000000003, some ⟨6, [[(eI 4), (eI p2.ctor), (eI 0), (eI 0), (eI 0), (.sl 6 4 (s110).length)]], 0, 0x0033⟩)] (.o (.o (.o (.dz [0, 1, 2, 3, 4, 5, 6, 7, 8, 9, 10, 11, 12, 13, 14, 15, 16, 17, 18] [0, 1, 5] [1048590] [] .z)))))) (fun s118 => .z)))))))))))))))))
end Go.Proofs.YtnackipaoepmfaaGreat
set_option linter.unusedSimpArgs false
set_option linter.unusedVariables false
namespace Go.Proofs.YtnackipaoepmfaaGreat
open Go Go.RowKit
set_option maxRecDepth 100000
set_option maxHeartbeats 20000000
instance X8y : ∀ (p0 : Q3f) (p1 : (List W4)), Ct (Q2c p0 p1) fun res => Q9 Tryz.prog 0o00241 [(.agg (Q7a p0)), (.slice 4 (List.map Q1l p1))] (fun d => d = (eB res)) :=
 au Tryz.func161 Q2c.eq_1 .z
end Go.Proofs.YtnackipaoepmfaaGreat
set_option linter.unusedSimpArgs false
set_option linter.unusedVariables false
namespace Go.Proofs.YtnackipaoepmfaaGreat
open Go Go.RowKit
set_option maxRecDepth 100000
set_option maxHeartbeats 20000000
instance X71 : ∀ (n : Nat) (p0 : Q0) (p1 : Q0), Ct (Q12 n p0 p1) fun res => Q9 Tryz.prog 0o00061 [(.agg (Q1 p0)), (.agg (Q1 p1))] (fun d => d = (eB res)) :=
 ar (au Tryz.func49 Q12.eq_2 .z)
end Go.Proofs.YtnackipaoepmfaaGreat
set_option linter.unusedSimpArgs false
set_option linter.unusedVariables false
namespace Go.Proofs.YtnackipaoepmfaaGreat
open Go Go.RowKit
set_option maxRecDepth 100000
set_option maxHeartbeats 20000000
instance X8s : ∀ (n : Nat) (p0 : (List Q4)), Ct (Q2a n p0) fun res => Q0u Tryz.prog 0o00135 [] [(.slice 9 (List.map Z7 p0))] (fun H d => H = [some ⟨9, List.map Z7 res, 0, 0x0037⟩] ∧ d = .sl 9 0 res.length) :=
 au Tryz.func93 Q2a.eq_1 (.o (.o (.pN 3 9 0x0037 (.ls 0 (.f [3] [40] [3, 6, 7, 8] [40] (fun (k56 : Nat) (s52 : (List Q4)) => [(3, .sl 9 40 (s52).length), (8, eI (k56 : Int))]) (fun k56 s52 => [(40, some ⟨9, (List.map Z7 s52), 0, 0x0037⟩)]) (fun k56 s52 => .o (.g [3, 5, 6, 7, 8] [0, 25] [] [] (.o (.o (.d [0, 1, 2, 4, 5, 3, 6, 7, 8, 9] [1] [] .z))))) (fun s60 => .z))))))
end Go.Proofs.YtnackipaoepmfaaGreat
set_option linter.unusedSimpArgs false
set_option linter.unusedVariables false
namespace Go.Proofs.YtnackipaoepmfaaGreat
open Go Go.RowKit
set_option maxRecDepth 100000
set_option maxHeartbeats 20000000
instance W02 : ∀ (n : Nat) (p0 : Q5) (p1 : Q5), Ct (Q2m n p0 p1) fun res => Q9 Tryz.prog 0o00134 [(.agg (V2 p0)), (.agg (V2 p1))] (fun d => d = (eB res)) :=
 ar (au Tryz.func92 Q2m.eq_2 .z)
end Go.Proofs.YtnackipaoepmfaaGreat
