import Derived.Test.YtnackipaoepmfaaGreatGJMir
import Derived.Test.YtnackipaoepmfaaGreatGJAuto
import Derived.Test.YtnackipaoepmfaaGreatGJC3b0
import Derived.Test.YtnackipaoepmfaaGreatGJC0a0
import Derived.Test.YtnackipaoepmfaaGreatGJC4d0
import Derived.Test.YtnackipaoepmfaaGreatGJC1c0
import Derived.Test.YtnackipaoepmfaaGreatGJC2d0
import Derived.Test.YtnackipaoepmfaaGreatGJC1a0
import Derived.Test.YtnackipaoepmfaaGreatGJC3c0
import Derived.Test.YtnackipaoepmfaaGreatGJC0d0
import Derived.Test.YtnackipaoepmfaaGreatGJC4c0
import Derived.Test.YtnackipaoepmfaaGreatGJC1b0
set_option linter.unusedSimpArgs false
set_option linter.unusedVariables false
set_option linter.unusedSimpArgs false
set_option linter.unusedVariables false
namespace Go.Proofs.YtnackipaoepmfaaGreat
open Go Go.RowKit
set_option maxRecDepth 100000
set_option maxHeartbeats 20000000
instance W9v : ∀ (n : Nat) (p0 : (List Q3)) (p1 : Q2) (p2 : Q0), Ct (Q3o n p0 p1 p2) fun res => Q9 Tryz.prog 0o00353 [(.slice 2 (List.map X0 p0)), (.agg (Z6 p1)), (.agg (Q1 p2))] (fun d => d = (eB res)) :=
 au Tryz.func235 Q3o.eq_1 .z
end Go.Proofs.YtnackipaoepmfaaGreat
set_option linter.unusedSimpArgs false
set_option linter.unusedVariables false
namespace Go.Proofs.YtnackipaoepmfaaGreat
open Go Go.RowKit
set_option maxRecDepth 100000
set_option maxHeartbeats 20000000
instance W5q : ∀ (n : Nat) (p0 : Z1) (p1 : (List Q3)) (p2 : Q2), Ct (Q3n n p0 p1 p2) fun res => Q0k Tryz.prog 0o00216 [⟨2, [(Y3 p0)], 0, 0x00c4⟩] [.ptr 2 0 0 0, (.slice 2 (List.map X0 p1)), (.agg (Z6 p2))] (fun H d => H = [some ⟨2, [(Y3 res.2)], 0, 0x00c4⟩] ∧ d = (.agg (Q1 res.1))) :=
 au Tryz.func142 Q3n.eq_1 (.o (.o (.o (.o (.g [0, 1, 5, 6] [0, 1, 9] [] [] (.o (.o (.o (.dz [0, 1, 2, 3, 4, 5, 6, 7, 8, 9, 10, 11, 12, 13, 14] [1] [1048583] [] .z)))))))))
end Go.Proofs.YtnackipaoepmfaaGreat
set_option linter.unusedSimpArgs false
set_option linter.unusedVariables false
namespace Go.Proofs.YtnackipaoepmfaaGreat
open Go Go.RowKit
set_option maxRecDepth 100000
set_option maxHeartbeats 20000000
instance W22 : ∀ (n : Nat) (p0 : Z1) (p1 : (List Q3)) (p2 : Q2), Ct (Q2b n p0 p1 p2) fun res => Q0k Tryz.prog 0o00364 [⟨2, [(Y3 p0)], 0, 0x00c4⟩] [.ptr 2 0 0 0, (.slice 2 (List.map X0 p1)), (.agg (Z6 p2))] (fun H d => H = [some ⟨2, [(Y3 res.2)], 0, 0x00c4⟩] ∧ d = (.agg (Z8 res.1))) :=
 au Tryz.func244 Q2b.eq_1 (.o (.o (.o (.o (.b fun (r1 : (Q0 × Z1)) => .o (.ll 106 (.f [6, 7] [0, 9, 57] [0, 6, 7, 8, 9] [0, 9, 57, 106] (fun (k195 : Nat) (s191 : Z1 × Int × Int × Int) => [(9, eI (k195 : Int))]) (fun k195 s191 => [(0, some ⟨2, [(Y3 s191.1)], 0, 0x00c4⟩), (57, some ⟨9, [[(eI r1.1.op), (eI r1.1.ctor), (eI r1.1.n), (eI r1.1.m), (eI r1.1.var), (.slice 6 (List.map Q1 r1.1.kids)), (eI s191.2.1), (eI s191.2.2.1), (eI s191.2.2.2)]], 0, 0x0037⟩)]) (fun k195 s191 => .o (.j 6 0 [0, 6, 7, 8, 9] [0, 1, 2, 3] (fun (s212 : Z1 × Int × Int × Int) => []) (fun s212 => [(0, some ⟨2, [(Y3 s212.1)], 0, 0x00c4⟩), (2, some ⟨9, [[(eI r1.1.op), (eI r1.1.ctor), (eI r1.1.n), (eI r1.1.m), (eI r1.1.var), (.slice 6 (List.map Q1 r1.1.kids)), (eI s212.2.1), (eI s212.2.2.1), (eI s212.2.2.2)]], 0, 0x0037⟩)]) (.i (.o (.i (.g [0, 6, 7, 8, 9] [0, 1, 2, 3] [] [] (.o (.o (.d [0, 3, 4, 5, 6, 7, 8, 1, 2, 9, 10, 11, 12] [3] [] .z)))) .z)) .z) (fun _ => .z))) (fun s199 => .z))))))))
end Go.Proofs.YtnackipaoepmfaaGreat
set_option linter.unusedSimpArgs false
set_option linter.unusedVariables false
namespace Go.Proofs.YtnackipaoepmfaaGreat
open Go Go.RowKit
set_option maxRecDepth 100000
set_option maxHeartbeats 20000000
instance W9u : ∀ (n : Nat) (p0 : (List Q3)) (p1 : Q2) (p2 : Q5), Ct (Q66 n p0 p1 p2) fun res => Q9 Tryz.prog 0o00243 [(.slice 2 (List.map X0 p0)), (.agg (Z6 p1)), (.agg (Z8 p2))] (fun d => d = (eB res)) :=
 au Tryz.func163 Q66.eq_1 (.o (.o (.o (.o (.g [0, 4, 5] [0, 8] [] [] (.o (.i (.o (.o (.d [0, 1, 2, 3, 4, 5, 6, 7, 8, 9, 10, 11, 12, 13, 14, 15] [0, 1] [] .z))) (.d [0, 1, 2, 3, 4, 5, 6, 7, 8, 9, 10, 11, 12, 13, 14, 15] [0, 1] [] .z))))))))
end Go.Proofs.YtnackipaoepmfaaGreat
set_option linter.unusedSimpArgs false
set_option linter.unusedVariables false
namespace Go.Proofs.YtnackipaoepmfaaGreat
open Go Go.RowKit
set_option maxRecDepth 100000
set_option maxHeartbeats 20000000
instance X46 : ∀ (n : Nat) (p0 : (List Q3)) (p1 : Q2) (p2 : (List Q5)), Ct (Q1a n p0 p1 p2) fun res => Q9 Tryz.prog 0o00114 [(.slice 2 (List.map X0 p0)), (.agg (Z6 p1)), (.slice 9 (List.map Z8 p2))] (fun d => d = (eB res)) :=
 au Tryz.func76 Q1a.eq_1 (.o (.o (.o (.o (.o (.i .z (.i .z (.ls 2 (.f [] [] [0, 2, 4, 7] [0] (fun (k70 : Nat) (s66 : Unit) => [(7, eI (k70 : Int))]) (fun k70 s66 => []) (fun k70 s66 => .o (.g [0, 2, 4, 7] [0] [] [] (.o (.d [0, 1, 2, 3, 4, 5, 6, 7] [0] [] .z)))) (fun s74 => .z))))))))))
end Go.Proofs.YtnackipaoepmfaaGreat
set_option linter.unusedSimpArgs false
set_option linter.unusedVariables false
namespace Go.Proofs.YtnackipaoepmfaaGreat
open Go Go.RowKit
set_option maxRecDepth 100000
set_option maxHeartbeats 20000000
instance X6d : ∀ (n : Nat) (p0 : (List Q3)) (p1 : Q2) (p2 : Q5), Ct (Q2u n p0 p1 p2) fun res => Q9 Tryz.prog 0o00132 [(.slice 2 (List.map X0 p0)), (.agg (Z6 p1)), (.agg (Z8 p2))] (fun d => d = (eB res)) :=
 au Tryz.func90 Q2u.eq_1 .z
end Go.Proofs.YtnackipaoepmfaaGreat
set_option linter.unusedSimpArgs false
set_option linter.unusedVariables false
namespace Go.Proofs.YtnackipaoepmfaaGreat
open Go Go.RowKit
set_option maxRecDepth 100000
set_option maxHeartbeats 20000000
instance X44 : ∀ (n : Nat) (p0 : (List Q3)) (p1 : Q2) (p2 : Q0), Ct (Q18 n p0 p1 p2) fun res => Q9 Tryz.prog 0o00412 [(.slice 2 (List.map X0 p0)), (.agg (Z6 p1)), (.agg (Q1 p2))] (fun d => d = (eB res)) :=
 au Tryz.func266 Q18.eq_1 .z
end Go.Proofs.YtnackipaoepmfaaGreat
set_option linter.unusedSimpArgs false
set_option linter.unusedVariables false
namespace Go.Proofs.YtnackipaoepmfaaGreat
open Go Go.RowKit
set_option maxRecDepth 100000
set_option maxHeartbeats 20000000
instance W82 : ∀ (n : Nat) (p0 : (List Q3)) (p1 : Q2) (p2 : Q0) (p3 : Q0), Ct (Q7p n p0 p1 p2 p3) fun res => Q9 Tryz.prog 0o00266 [(.slice 2 (List.map X0 p0)), (.agg (Z6 p1)), (.agg (Q1 p2)), (.agg (Q1 p3))] (fun d => d = .tup [(.slice 6 (List.map Q1 res.1)), (.slice 6 (List.map Q1 res.2.1)), (eB res.2.2)]) :=
 au Tryz.func182 Q7p.eq_1 .z
end Go.Proofs.YtnackipaoepmfaaGreat
set_option linter.unusedSimpArgs false
set_option linter.unusedVariables false
namespace Go.Proofs.YtnackipaoepmfaaGreat
open Go Go.RowKit
set_option maxRecDepth 100000
set_option maxHeartbeats 20000000
instance W3k : ∀ (n : Nat) (p0 : (List Q3)) (p1 : Q2) (p2 : (List Q0)) (p3 : Bool), Ct (Q52 n p0 p1 p2 p3) fun res => Q9 Tryz.prog 0o00271 [(.slice 2 (List.map X0 p0)), (.agg (Z6 p1)), (.slice 6 (List.map Q1 p2)), (eB p3)] (fun d => d = .tup [(.slice 6 (List.map Q1 res.1)), (eB res.2)]) :=
 au Tryz.func185 Q52.eq_1 (.o (.o (.o (.o (.o (.ls 2 (.f [2, 3] [] [0, 2, 3, 5, 10] [0] (fun (k54 : Nat) (s50 : Unit) => [(10, eI (k54 : Int))]) (fun k54 s50 => []) (fun k54 s50 => .o (.g [0, 2, 3, 5, 10] [0] [] [] (.o (.d [0, 1, 2, 3, 4, 5, 6, 7] [0] [] .z)))) (fun s58 => .z))))))))
end Go.Proofs.YtnackipaoepmfaaGreat
