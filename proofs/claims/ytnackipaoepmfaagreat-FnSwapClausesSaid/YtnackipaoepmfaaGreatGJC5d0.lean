import Derived.Test.YtnackipaoepmfaaGreatGJMir
import Derived.Test.YtnackipaoepmfaaGreatGJAuto
import Derived.Test.YtnackipaoepmfaaGreatGJC4b0
import Derived.Test.YtnackipaoepmfaaGreatGJC0b0
import Derived.Test.YtnackipaoepmfaaGreatGJC1a0
import Derived.Test.YtnackipaoepmfaaGreatGJC2a0
import Derived.Test.YtnackipaoepmfaaGreatGJC4d0
set_option linter.unusedSimpArgs false
set_option linter.unusedVariables false
set_option linter.unusedSimpArgs false
set_option linter.unusedVariables false
namespace Go.Proofs.YtnackipaoepmfaaGreat
open Go Go.RowKit
set_option maxRecDepth 100000
set_option maxHeartbeats 20000000
instance X0c : ∀ (n : Nat) (p0 : Q0) (q0 : Q0t) (q1 : Q2), Ct (Q2j n p0 q0 q1) fun res => Q9 Tryz.prog 0o00417 [(.agg (Q1 p0)), .cptr [(.cptr (Q1n q0))], .cptr (Z6 q1)] (fun d => d = (eB res)) :=
 au Tryz.func271 Q2j.eq_1 .z
end Go.Proofs.YtnackipaoepmfaaGreat
set_option linter.unusedSimpArgs false
set_option linter.unusedVariables false
namespace Go.Proofs.YtnackipaoepmfaaGreat
open Go Go.RowKit
set_option maxRecDepth 100000
set_option maxHeartbeats 20000000
instance X32 : ∀ (n : Nat) (p0 : Q0t) (p1 : Q2) (p2 : (List Q0)), Ct (Q0a n p0 p1 p2) fun res => Q9 Tryz.prog 0o00311 [.cptr (Q1n p0), (.agg (Z6 p1)), (.slice 6 (List.map Q1 p2))] (fun d => d = (.slice 6 (List.map Q1 res))) :=
 au Tryz.func201 Q0a.eq_1 .z
end Go.Proofs.YtnackipaoepmfaaGreat
set_option linter.unusedSimpArgs false
set_option linter.unusedVariables false
namespace Go.Proofs.YtnackipaoepmfaaGreat
open Go Go.RowKit
set_option maxRecDepth 100000
set_option maxHeartbeats 20000000
instance X1w : ∀ (n : Nat) (p0 : Q0t) (p1 : Q2) (p2 : (List Q0)) (p3 : (List Q0)), Ct (Q1k n p0 p1 p2 p3) fun res => Q9 Tryz.prog 0o00154 [.cptr (Q1n p0), (.agg (Z6 p1)), (.slice 6 (List.map Q1 p2)), (.slice 6 (List.map Q1 p3))] (fun d => d = .tup [(.slice 6 (List.map Q1 res.1)), (eB res.2)]) :=
 au Tryz.func108 Q1k.eq_1 (.o (.o (.o (.o (.o (.o (.ls 3 (.f [2] [] [0, 2, 5, 19, 20, 21] [0] (fun (k697 : Nat) (s693 : (List Q0)) => [(2, .slice 6 (List.map Q1 s693)), (21, eI (k697 : Int))]) (fun k697 s693 => []) (fun k697 s693 => .o (.pN 12 6 0x0033 (.ls 2 (.f [0, 5, 12, 19, 20, 21] [0, 73] [0, 5, 11, 12, 19, 20, 21, 25, 26, 27] [0, 25, 73] (fun (k823 : Nat) (s819 : (List Q0)) => [(12, .sl 6 73 (s819).length), (27, eI (k823 : Int))]) (fun k823 s819 => [(73, some ⟨6, (List.map Q1 s819), 0, 0x0033⟩)]) (fun k823 s819 => .z) (fun s827 => .z))))) (fun s701 => .z)))))))))
end Go.Proofs.YtnackipaoepmfaaGreat
set_option linter.unusedSimpArgs false
set_option linter.unusedVariables false
namespace Go.Proofs.YtnackipaoepmfaaGreat
open Go Go.RowKit
set_option maxRecDepth 100000
set_option maxHeartbeats 20000000
instance W3n : ∀ (n : Nat) (p0 : (List Q3)) (p1 : (List Int)) (p2 : Q2) (p3 : (List Q0)), Ct (Q40 n p0 p1 p2 p3) fun res => Q9 Tryz.prog 0o00270 [(.slice 2 (List.map X0 p0)), (.slice 1 (List.map rI p1)), (.agg (Z6 p2)), (.slice 6 (List.map Q1 p3))] (fun d => d = .tup [(.slice 6 (List.map Q1 res.1)), (eB res.2)]) :=
 au Tryz.func184 Q40.eq_1 (.o (.o (.o (.o (.o (.ls 3 (.f [10] [24] [0, 1, 3, 6, 10, 11] [0, 24] (fun (k168 : Nat) (s164 : (List Q0)) => [(10, .sl 6 24 (s164).length), (11, eI (k168 : Int))]) (fun k168 s164 => [(24, some ⟨6, (List.map Q1 s164), 0, 0x0033⟩)]) (fun k168 s164 => .o (.g [0, 1, 3, 6, 10, 11] [0, 1] [] [] (.o (.o (.o (.d [0, 1, 2, 3, 4, 5, 6, 7, 8, 9, 10, 11, 12, 13, 14, 15, 16] [0] [] .z)))))) (fun s172 => .z))))))))
end Go.Proofs.YtnackipaoepmfaaGreat
