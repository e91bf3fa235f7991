import Derived.Test.YtnackipaoepmfaaGreatGJMir
import Derived.Test.YtnackipaoepmfaaGreatGJAuto
import Derived.Test.YtnackipaoepmfaaGreatGJC1c0
import Derived.Test.YtnackipaoepmfaaGreatGJC0d0
import Derived.Test.YtnackipaoepmfaaGreatGJC0b0
import Derived.Test.YtnackipaoepmfaaGreatGJC0c0
import Derived.Test.YtnackipaoepmfaaGreatGJC1b0
import Derived.Test.YtnackipaoepmfaaGreatGJC1a0
import Derived.Test.YtnackipaoepmfaaGreatGJC0a0
import Derived.Test.YtnackipaoepmfaaGreatGJC1d0
set_option linter.unusedSimpArgs false
set_option linter.unusedVariables false
set_option linter.unusedSimpArgs false
set_option linter.unusedVariables false
namespace Go.Proofs.YtnackipaoepmfaaGreat
open Go Go.RowKit
set_option maxRecDepth 100000
set_option maxHeartbeats 20000000
instance X6a : ∀ (n : Nat) (p0 : (List ByteArray)) (p1 : ByteArray), Ct (Q5v n p0 p1) fun res => Q9 Tryz.prog 0o00520 [(.slice 1 (List.map rS p0)), (eS p1)] (fun d => d = (.agg (Q5r res))) :=
 au Tryz.func336 Q5v.eq_1 (.o (.o (.o (.j 2 0 [0, 1, 4, 5] [0, 16] (fun (s13 : ByteArray × Int) => [(1, eS s13.1)]) (fun s13 => [(16, some ⟨3, [[(eS ByteArray.empty), .nil, (eI s13.2)]], 0, 0x0116⟩)]) .z (fun s13 => .o (.b fun (x29 : ByteArray) => .i .z (.o (.i .z (.g [0, 4, 5, 6] [0, 1] [] [] (.o (.o (.d [0, 1, 2, 3, 4, 5, 6, 7, 8, 9, 10] [] [] (.pC 1 1 2 0x0019 (.ls 60 (.f [4, 5] [0, 1, 18] [0, 4, 5, 7, 8] [0, 1, 18] (fun (k137 : Nat) (s133 : (List Q2)) => [(8, eI (k137 : Int))]) (fun k137 s133 => [(1000000001, some ⟨3, [[(eS x29), (.sl 2 18 (s133).length), (eI s13.2)]], 0, 0x0116⟩), (18, some ⟨2, (List.map Z6 s133), 0, 0x0019⟩)]) (fun k137 s133 => .o (.i (.g [0, 4, 5, 7, 8] [0, 1, 2] [] [(1000000001, some ⟨3, [[(eS x29), (.sl 2 2 (s133).length), (eI s13.2)]], 0, 0x0116⟩)] (.o (.o (.d [0, 1, 2, 3, 4, 5, 6, 7, 8, 9, 10, 11] [1] [81] .z)))) .z)) (fun s141 => .z))))))))))))))))
end Go.Proofs.YtnackipaoepmfaaGreat
set_option linter.unusedSimpArgs false
set_option linter.unusedVariables false
namespace Go.Proofs.YtnackipaoepmfaaGreat
open Go Go.RowKit
set_option maxRecDepth 100000
set_option maxHeartbeats 20000000
instance W64 : ∀ (n : Nat) (p0 : Int) (p1 : Q6j), Ct (Q8x n p0 p1) fun res => Q9 Tryz.prog 0o00467 [(eI p0), (.agg (Q5r p1))] (fun d => d = (eB res)) :=
 au Tryz.func311 Q8x.eq_1 (.o (.o (.o (.o (.i .z (.i .z (.i .z (.i .z (.ls 12 (.f [] [] [0, 3, 5] [0] (fun (k82 : Nat) (s78 : Unit) => [(5, eI (k82 : Int))]) (fun k82 s78 => []) (fun k82 s78 => .z) (fun s86 => .z)))))))))))
end Go.Proofs.YtnackipaoepmfaaGreat
set_option linter.unusedSimpArgs false
set_option linter.unusedVariables false
namespace Go.Proofs.YtnackipaoepmfaaGreat
open Go Go.RowKit
set_option maxRecDepth 100000
set_option maxHeartbeats 20000000
instance X48 : ∀ (n : Nat) (p0 : Q0t) (p1 : Q2) (p2 : Q0) (p3 : Q0), Ct (X3 n p0 p1 p2 p3) fun res => Q9 Tryz.prog 0o00312 [.cptr (Q1n p0), (.agg (Z6 p1)), (.agg (Q1 p2)), (.agg (Q1 p3))] (fun d => d = (.slice 6 (List.map Q1 res))) :=
 ar (au Tryz.func202 X3.eq_2 (.o (.o (.o (.o (.o (.o (.i .z (.i .z (.i (.g [0, 5, 7, 11] [0, 16] [] [] (.o (.d [0, 1, 2, 3, 4, 7, 5, 6] [0] [] (.pN 11 6 0x0033 (.ls 59 (.f [11] [10] [0, 5, 7, 11, 59, 60, 61] [0, 1, 10] (fun (k157 : Nat) (s153 : (List Q0)) => [(11, .sl 6 10 (s153).length), (61, eI (k157 : Int))]) (fun k157 s153 => [(10, some ⟨6, (List.map Q1 s153), 0, 0x0033⟩)]) (fun k157 s153 => .o (.g [0, 5, 7, 11, 13, 59, 60, 61] [0, 1, 2] [] [] (.o (.o (.o (.d [0, 1, 2, 3, 4, 5, 7, 6, 8, 9, 10] [0, 1] [] .z)))))) (fun s161 => .z))))))) (.i .z (.g [0, 5, 6, 7, 14, 15] [0, 8, 16] [] [] (.o (.d [0, 1, 2, 3, 4, 5, 6, 9, 7, 8] [0, 1] [] (.pN 14 6 0x0033 (.pN 15 6 0x0033 (.ls 92 (.f [14] [11] [0, 6, 7, 14, 15, 92, 93, 94] [1, 2, 11, 12] (fun (k1426 : Nat) (s1422 : (List Q0) × (List Q0)) => [(14, .sl 6 11 (s1422.1).length), (15, .sl 6 12 (s1422.2).length), (94, eI (k1426 : Int))]) (fun k1426 s1422 => [(11, some ⟨6, (List.map Q1 s1422.1), 0, 0x0033⟩), (12, some ⟨6, (List.map Q1 s1422.2), (s1422.2).length * 6, 0x0033⟩)]) (fun k1426 s1422 => .o (.g [0, 6, 7, 14, 15, 16, 17, 92, 93, 94] [0, 1, 2, 3, 36] [] [] (.o (.o (.o (.d [0, 1, 2, 3, 4, 5, 6, 7, 8, 9, 10, 11, 14, 12, 13] [0, 1, 4] [] (.ls 111 (.f [0, 6, 7, 14, 15, 16, 17, 92, 93, 94] [0, 1, 2, 3, 4] [0, 6, 7, 14, 15, 16, 17, 92, 93, 94, 111, 112, 113] [0, 1, 2, 3, 4] (fun (k1588 : Nat) (s1584 : (List Q0)) => [(14, .sl 6 2 (s1584).length), (113, eI (k1588 : Int))]) (fun k1588 s1584 => [(2, some ⟨6, (List.map Q1 s1584), 0, 0x0033⟩)]) (fun k1588 s1584 => .o (.g [0, 6, 7, 14, 15, 16, 17, 19, 92, 93, 94, 111, 112, 113] [0, 1, 2, 3, 4, 29] [] [] (.o (.o (.d [0, 1, 3, 4, 5, 6, 7, 2, 8, 9, 10] [0, 5] [] .z))))) (fun s1592 => .g [0, 6, 7, 14, 15, 16, 17, 92, 93, 94] [0, 1, 2, 3, 4] [] [] (.o (.dz [0, 1, 2, 3, 4, 5, 6, 7, 8, 9, 10, 11, 12, 13, 14, 15, 16, 17, 18] [0, 1, 4] [1048597] [] (.i .z (.o (.pF 2097208 .z)))))))))))))) (fun s1430 => .z)))))))))))))))))))
end Go.Proofs.YtnackipaoepmfaaGreat
set_option linter.unusedSimpArgs false
set_option linter.unusedVariables false
namespace Go.Proofs.YtnackipaoepmfaaGreat
open Go Go.RowKit
set_option maxRecDepth 100000
set_option maxHeartbeats 20000000
instance W8b : ∀ (n : Nat) (p0 : Q0), Ct (Q5l n p0) fun res => Q9 Tryz.prog 0o00150 [(.agg (Q1 p0))] (fun d => d = .tup [(.slice 6 (List.map Q1 res.1)), (eB res.2)]) :=
 au Tryz.func104 Q5l.eq_1 .z
end Go.Proofs.YtnackipaoepmfaaGreat
set_option linter.unusedSimpArgs false
set_option linter.unusedVariables false
namespace Go.Proofs.YtnackipaoepmfaaGreat
open Go Go.RowKit
set_option maxRecDepth 100000
set_option maxHeartbeats 20000000
instance X9s : ∀ (p0 : W4) (p1 : W4), Ct (Q0z p0 p1) fun res => Q9 Tryz.prog 0o00374 [(.agg (Q1h p0)), (.agg (Q1h p1))] (fun d => d = (eI res)) :=
 au Tryz.func252 Q0z.eq_1 .z
end Go.Proofs.YtnackipaoepmfaaGreat
