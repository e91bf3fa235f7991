import Derived.Test.YtnackipaoepmfaaGreatDJMir
import Derived.Test.YtnackipaoepmfaaGreatDJAuto
import Derived.Test.YtnackipaoepmfaaGreatDJC3d0
import Derived.Test.YtnackipaoepmfaaGreatDJC0c0
import Derived.Test.YtnackipaoepmfaaGreatDJC4d0
import Derived.Test.YtnackipaoepmfaaGreatDJC1c0
import Derived.Test.YtnackipaoepmfaaGreatDJC2d0
import Derived.Test.YtnackipaoepmfaaGreatDJC4c0
import Derived.Test.YtnackipaoepmfaaGreatDJC1a0
set_option linter.unusedSimpArgs false
set_option linter.unusedVariables false
set_option linter.unusedSimpArgs false
set_option linter.unusedVariables false
namespace Go.Proofs.YtnackipaoepmfaaGreat
open Go Go.RowKit
set_option maxRecDepth 100000
set_option maxHeartbeats 20000000
instance W8l : ∀ (n : Nat) (p0 : (List Q3)) (p1 : Q2) (p2 : Q0), Ct (Q3f n p0 p1 p2) fun res => Q9 Tryz.prog 0o00353 [(.slice 2 (List.map Z6 p0)), (.agg (Z2 p1)), (.agg (Q1 p2))] (fun d => d = (eB res)) :=
 au Tryz.func235 Q3f.eq_1 .z
end Go.Proofs.YtnackipaoepmfaaGreat
set_option linter.unusedSimpArgs false
set_option linter.unusedVariables false
namespace Go.Proofs.YtnackipaoepmfaaGreat
open Go Go.RowKit
set_option maxRecDepth 100000
set_option maxHeartbeats 20000000
instance W4g : ∀ (n : Nat) (p0 : X0) (p1 : (List Q3)) (p2 : Q2), Ct (Q2n n p0 p1 p2) fun res => Q1d Tryz.prog 0o00216 [⟨2, [(Q08 p0)], 0, 0x00c4⟩] [.ptr 2 0 0 0, (.slice 2 (List.map Z6 p1)), (.agg (Z2 p2))] (fun H d => H = [some ⟨2, [(Q08 res.2)], 0, 0x00c4⟩] ∧ d = (.agg (Q1 res.1))) :=
 au Tryz.func142 Q2n.eq_1 (.o (.o (.o (.o (.g [0, 1, 5, 6] [0, 1, 9] [] [] (.o (.o (.o (.dz [0, 1, 2, 3, 4, 5, 6, 7, 8, 9, 10, 11, 12, 13, 14] [1] [1048583] [] .z)))))))))
end Go.Proofs.YtnackipaoepmfaaGreat
set_option linter.unusedSimpArgs false
set_option linter.unusedVariables false
namespace Go.Proofs.YtnackipaoepmfaaGreat
open Go Go.RowKit
set_option maxRecDepth 100000
set_option maxHeartbeats 20000000
instance W8k : ∀ (n : Nat) (p0 : (List Q3)) (p1 : Q2) (p2 : Z5), Ct (Q75 n p0 p1 p2) fun res => Q9 Tryz.prog 0o00243 [(.slice 2 (List.map Z6 p0)), (.agg (Z2 p1)), (.agg (Z8 p2))] (fun d => d = (eB res)) :=
 au Tryz.func163 Q75.eq_1 (.o (.o (.o (.o (.g [0, 4, 5] [0, 8] [] [] (.o (.i (.o (.o (.d [0, 1, 2, 3, 4, 5, 6, 7, 8, 9, 10, 11, 12, 13, 14, 15] [0, 1] [] .z))) (.d [0, 1, 2, 3, 4, 5, 6, 7, 8, 9, 10, 11, 12, 13, 14, 15] [0, 1] [] .z))))))))
end Go.Proofs.YtnackipaoepmfaaGreat
set_option linter.unusedSimpArgs false
set_option linter.unusedVariables false
namespace Go.Proofs.YtnackipaoepmfaaGreat
open Go Go.RowKit
set_option maxRecDepth 100000
set_option maxHeartbeats 20000000
instance X5p : ∀ (n : Nat) (p0 : (List Q3)) (p1 : Q2) (p2 : Z5), Ct (Q2r n p0 p1 p2) fun res => Q9 Tryz.prog 0o00132 [(.slice 2 (List.map Z6 p0)), (.agg (Z2 p1)), (.agg (Z8 p2))] (fun d => d = (eB res)) :=
 au Tryz.func90 Q2r.eq_1 .z
end Go.Proofs.YtnackipaoepmfaaGreat
set_option linter.unusedSimpArgs false
set_option linter.unusedVariables false
namespace Go.Proofs.YtnackipaoepmfaaGreat
open Go Go.RowKit
set_option maxRecDepth 100000
set_option maxHeartbeats 20000000
instance X3g : ∀ (n : Nat) (p0 : (List Q3)) (p1 : Q2) (p2 : Q0), Ct (Q19 n p0 p1 p2) fun res => Q9 Tryz.prog 0o00412 [(.slice 2 (List.map Z6 p0)), (.agg (Z2 p1)), (.agg (Q1 p2))] (fun d => d = (eB res)) :=
 au Tryz.func266 Q19.eq_1 .z
end Go.Proofs.YtnackipaoepmfaaGreat
set_option linter.unusedSimpArgs false
set_option linter.unusedVariables false
namespace Go.Proofs.YtnackipaoepmfaaGreat
open Go Go.RowKit
set_option maxRecDepth 100000
set_option maxHeartbeats 20000000
instance W6s : ∀ (n : Nat) (p0 : (List Q3)) (p1 : Q2) (p2 : Q0) (p3 : Q0), Ct (Q7k n p0 p1 p2 p3) fun res => Q9 Tryz.prog 0o00266 [(.slice 2 (List.map Z6 p0)), (.agg (Z2 p1)), (.agg (Q1 p2)), (.agg (Q1 p3))] (fun d => d = .tup [(.slice 6 (List.map Q1 res.1)), (.slice 6 (List.map Q1 res.2.1)), (eB res.2.2)]) :=
 au Tryz.func182 Q7k.eq_1 .z
end Go.Proofs.YtnackipaoepmfaaGreat
set_option linter.unusedSimpArgs false
set_option linter.unusedVariables false
namespace Go.Proofs.YtnackipaoepmfaaGreat
open Go Go.RowKit
set_option maxRecDepth 100000
set_option maxHeartbeats 20000000
instance W2h : ∀ (n : Nat) (p0 : (List Q3)) (p1 : Q2) (p2 : (List Q0)) (p3 : Bool), Ct (Q4q n p0 p1 p2 p3) fun res => Q9 Tryz.prog 0o00271 [(.slice 2 (List.map Z6 p0)), (.agg (Z2 p1)), (.slice 6 (List.map Q1 p2)), (eB p3)] (fun d => d = .tup [(.slice 6 (List.map Q1 res.1)), (eB res.2)]) :=
 au Tryz.func185 Q4q.eq_1 (.o (.o (.o (.o (.o (.ls 2 (.f [2, 3] [] [0, 2, 3, 5, 10] [0] (fun (k54 : Nat) (s50 : Unit) => [(10, eI (k54 : Int))]) (fun k54 s50 => []) (fun k54 s50 => .o (.g [0, 2, 3, 5, 10] [0] [] [] (.o (.d [0, 1, 2, 3, 4, 5, 6, 7] [0] [] .z)))) (fun s58 => .z))))))))
end Go.Proofs.YtnackipaoepmfaaGreat
