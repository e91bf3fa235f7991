import Derived.Test.YtnackipaoepmfaaGreatJMir
import Derived.Test.YtnackipaoepmfaaGreatJAuto
import Derived.Test.YtnackipaoepmfaaGreatJCs1
set_option linter.unusedSimpArgs false
set_option linter.unusedVariables false
set_option linter.unusedSimpArgs false
set_option linter.unusedVariables false
namespace Go.Proofs.YtnackipaoepmfaaGreat
open Go Go.RowKit
set_option maxRecDepth 100000
set_option maxHeartbeats 20000000
instance V08 : ∀ (p0 : Q2) (p1 : (List Int)), Ct (Q5g p0 p1) fun res => Z1 Tryz.prog 0o00303 [(.agg (W2 p0)), (.slice 1 (List.map rI p1))] (fun d => d = (.agg (W2 res))) :=
 au Tryz.func195 Q5g.eq_1 (.o (.o (.ls 1 (.f [2, 4] [0, 8] [1, 2, 4, 5] [0, 8] (fun (k46 : Nat) (s42 : Q2) => [(5, eI (k46 : Int))]) (fun k46 s42 => [(0, some ⟨3, [(W2 s42)], 0, 0x002f⟩)]) (fun k46 s42 => .o (.g [1, 2, 4, 5] [0, 1] [] [] (.o (.d [0, 1, 2, 3, 4, 5, 6, 7, 8] [0] [2] .z)))) (fun s50 => .z)))))
end Go.Proofs.YtnackipaoepmfaaGreat
set_option linter.unusedSimpArgs false
set_option linter.unusedVariables false
namespace Go.Proofs.YtnackipaoepmfaaGreat
open Go Go.RowKit
set_option maxRecDepth 100000
set_option maxHeartbeats 20000000
instance W1r : ∀ (n : Nat) (p0 : (List Q1)) (p1 : Q2), Ct (Q3c n p0 p1) fun res => Z1 Tryz.prog 0o00301 [(.slice 2 (List.map Z2 p0)), (.agg (W2 p1))] (fun d => d = (.slice 4 (List.map Q0k res))) :=
 au Tryz.func193 Q3c.eq_1 (.o (.o (.o (.ls 0 (.f [5] [16] [0, 3, 5, 6] [0, 16] (fun (k66 : Nat) (s62 : (List X0)) => [(5, .sl 4 16 (s62).length), (6, eI (k66 : Int))]) (fun k66 s62 => [(16, some ⟨4, (List.map Q0k s62), 0, 0x007e⟩)]) (fun k66 s62 => .o (.g [0, 3, 5, 6] [0, 1] [] [] (.o (.o (.o (.d [0, 1, 2, 3, 4, 5, 6, 7, 8, 9, 10, 11, 12, 13, 14, 15, 16, 17] [0] [] .z)))))) (fun s70 => .z))))))
end Go.Proofs.YtnackipaoepmfaaGreat
set_option linter.unusedSimpArgs false
set_option linter.unusedVariables false
namespace Go.Proofs.YtnackipaoepmfaaGreat
open Go Go.RowKit
set_option maxRecDepth 100000
set_option maxHeartbeats 20000000
instance W1t : ∀ (p0 : (List Z0)) (p1 : Q2), Ct (Q4e p0 p1) fun res => Z1 Tryz.prog 0o00302 [(.slice 9 (List.map J7 p0)), (.agg (W2 p1))] (fun d => d = .tup [(.agg (Q2e res.1)), (eB res.2)]) :=
 au Tryz.func194 Q4e.eq_1 (.o (.o (.ls 0 (.f [4] [8] [0, 3, 4, 6] [0, 8] (fun (k159 : Nat) (s155 : Unit) => [(6, eI (k159 : Int))]) (fun k159 s155 => []) (fun k159 s155 => .o (.j 4 0 [0, 3, 4, 6] [0, 1] (fun (s175 : Unit) => []) (fun _ => []) .z (fun _ => .z))) (fun s163 => .z)))))
end Go.Proofs.YtnackipaoepmfaaGreat
set_option linter.unusedSimpArgs false
set_option linter.unusedVariables false
namespace Go.Proofs.YtnackipaoepmfaaGreat
open Go Go.RowKit
set_option maxRecDepth 100000
set_option maxHeartbeats 20000000
instance X8j : ∀ (p0 : Q2i) (p1 : (List X0)), Ct (Q26 p0 p1) fun res => Z1 Tryz.prog 0o00247 [(.agg (Q6t p0)), (.slice 4 (List.map Q0k p1))] (fun d => d = (eB res)) :=
 au Tryz.func167 Q26.eq_1 (.o (.o (.i .z (.ls 1 (.f [] [] [1, 2, 5] [0] (fun (k179 : Nat) (s175 : Unit) => [(5, eI (k179 : Int))]) (fun k179 s175 => []) (fun k179 s175 => .o (.j 6 0 [1, 2, 5] [0] (fun (s196 : Unit) => []) (fun _ => []) (.g [1, 2, 5] [0] [] [] (.d [0, 1, 2, 3, 4, 5, 6, 7] [0] [] .z)) (fun _ => .z))) (fun s183 => .z))))))
end Go.Proofs.YtnackipaoepmfaaGreat
set_option linter.unusedSimpArgs false
set_option linter.unusedVariables false
namespace Go.Proofs.YtnackipaoepmfaaGreat
open Go Go.RowKit
set_option maxRecDepth 100000
set_option maxHeartbeats 20000000
instance W8d : ∀ (n : Nat) (p0 : (List Q7)) (p1 : W5) (p2 : Q2), Ct (Q6m n p0 p1 p2) fun res => Z1 Tryz.prog 0o00146 [(.slice 9 (List.map V6 p0)), (.agg (Q2e p1)), (.agg (W2 p2))] (fun d => d = .tup [(eI res.1), (.slice 4 (List.map Q0k res.2.1)), (eI res.2.2)]) :=
 au Tryz.func102 Q6m.eq_1 (.o (.o (.o (.o (.w [9] [] [0, 4, 5, 9] [0, 8] (fun (s52 : W5 × Int) => [(9, eI s52.2)]) (fun s52 => [(0, some ⟨6, [(Q2e s52.1)], 0, 0x0056⟩)]) (fun s52 => .i (.i .z (.g [0, 4, 5, 9] [0, 1] [] [] (.o (.o (.dz [0, 1, 2, 3, 4, 5, 6, 7, 8, 9, 10, 11, 12] [0, 1] [1048587] [] .z))))) .z) (fun s60 => .z))))))
end Go.Proofs.YtnackipaoepmfaaGreat
set_option linter.unusedSimpArgs false
set_option linter.unusedVariables false
namespace Go.Proofs.YtnackipaoepmfaaGreat
open Go Go.RowKit
set_option maxRecDepth 100000
set_option maxHeartbeats 20000000
instance W49 : ∀ (n : Nat) (p0 : (List Q3)) (p1 : Q5) (p2 : (List Q7)) (p3 : Int) (p4 : Q2), Ct (Q45 n p0 p1 p2 p3 p4) fun res => Z1 Tryz.prog 0o00044 [(.slice 2 (List.map V0 p0)), (.agg (W9 p1)), (.slice 9 (List.map V6 p2)), (eI p3), (.agg (W2 p4))] (fun d => d = .tup [(eI res.1), (.slice 4 (List.map Q0k res.2.1)), (eI res.2.2)]) :=
 au Tryz.func36 Q45.eq_1 .z
end Go.Proofs.YtnackipaoepmfaaGreat
