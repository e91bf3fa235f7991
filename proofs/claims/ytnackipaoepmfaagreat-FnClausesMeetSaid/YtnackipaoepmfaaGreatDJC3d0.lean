import Derived.Test.YtnackipaoepmfaaGreatDJMir
import Derived.Test.YtnackipaoepmfaaGreatDJAuto
import Derived.Test.YtnackipaoepmfaaGreatDJC1d0
import Derived.Test.YtnackipaoepmfaaGreatDJC0b0
import Derived.Test.YtnackipaoepmfaaGreatDJC1a0
import Derived.Test.YtnackipaoepmfaaGreatDJC2a0
import Derived.Test.YtnackipaoepmfaaGreatDJC2c0
import Derived.Test.YtnackipaoepmfaaGreatDJC2d0
set_option linter.unusedSimpArgs false
set_option linter.unusedVariables false
set_option linter.unusedSimpArgs false
set_option linter.unusedVariables false
namespace Go.Proofs.YtnackipaoepmfaaGreat
open Go Go.RowKit
set_option maxRecDepth 100000
set_option maxHeartbeats 20000000
instance W53 : ∀ (n : Nat) (p0 : (List Q3)) (p1 : Q6b), Ct (Q8t n p0 p1) fun res => Q9 Tryz.prog 0o00406 [(.slice 2 (List.map Z6 p0)), (.agg (Q5f p1))] (fun d => d = (eB res)) :=
 au Tryz.func262 Q8t.eq_1 .z
end Go.Proofs.YtnackipaoepmfaaGreat
set_option linter.unusedSimpArgs false
set_option linter.unusedVariables false
namespace Go.Proofs.YtnackipaoepmfaaGreat
open Go Go.RowKit
set_option maxRecDepth 100000
set_option maxHeartbeats 20000000
instance W32 : ∀ (n : Nat) (p0 : (List Q3)) (p1 : Q2) (p2 : Q6), Ct (Q3u n p0 p1 p2) fun res => Q9 Tryz.prog 0o00112 [(.slice 2 (List.map Z6 p0)), (.agg (Z2 p1)), (.agg (X3 p2))] (fun d => d = (eB res)) :=
 au Tryz.func74 Q3u.eq_1 .z
end Go.Proofs.YtnackipaoepmfaaGreat
set_option linter.unusedSimpArgs false
set_option linter.unusedVariables false
namespace Go.Proofs.YtnackipaoepmfaaGreat
open Go Go.RowKit
set_option maxRecDepth 100000
set_option maxHeartbeats 20000000
instance W2q : ∀ (n : Nat) (p0 : (List Q3)) (p1 : Q2) (p2 : Q0) (p3 : Int), Ct (Q22 n p0 p1 p2 p3) fun res => Q9 Tryz.prog 0o00452 [(.slice 2 (List.map Z6 p0)), (.agg (Z2 p1)), (.agg (Q1 p2)), (eI p3)] (fun d => d = (eB res)) :=
 ar (au Tryz.func298 Q22.eq_2 (.o (.o (.o (.o (.o (.o (.i .z (.o (.i .z (.o (.i .z (.ls 23 (.f [] [] [0, 3, 6, 9, 10] [8] (fun (k83 : Nat) (s79 : Unit) => [(10, eI (k83 : Int))]) (fun k83 s79 => []) (fun k83 s79 => .o (.g [0, 3, 6, 9, 10] [0] [] [] (.o (.o (.d [0, 1, 2, 3, 4, 5, 6, 7, 8, 9, 10, 11, 12, 13] [0] [] .z))))) (fun s87 => .z)))))))))))))))
end Go.Proofs.YtnackipaoepmfaaGreat
set_option linter.unusedSimpArgs false
set_option linter.unusedVariables false
namespace Go.Proofs.YtnackipaoepmfaaGreat
open Go Go.RowKit
set_option maxRecDepth 100000
set_option maxHeartbeats 20000000
instance W4f : ∀ (n : Nat) (p0 : (List Q8)) (p1 : (List Q3)) (p2 : Q2) (p3 : Q0), Ct (Q0t n p0 p1 p2 p3) fun res => Q1d Tryz.prog 0o00403 [⟨3, List.map W9 p0, 0, 0x0164⟩] [.sl 3 0 p0.length, (.slice 2 (List.map Z6 p1)), (.agg (Z2 p2)), (.agg (Q1 p3))] (fun H d => H = [none, some ⟨3, List.map W9 res, 0, 0x0164⟩] ∧ d = .sl 3 1 res.length) :=
 ar (au Tryz.func259 Q0t.eq_2 (.o (.o (.o (.o (.o (.o (.j 1 0 [0, 1, 6, 7] [0, 9000, 1, 9] (fun (s10 : (List Q8)) => [(0, .sl 3 9000 (s10).length)]) (fun s10 => [(0, none), (9000, some ⟨3, (List.map W9 s10), 0, 0x0164⟩)]) (.i .z (.i .z (.pM 0 .z))) (fun s10 => .o (.ls 29 (.f [0] [0, 1] [0, 1, 7, 9, 10] [0, 1, 3] (fun (k159 : Nat) (s155 : (List Q8)) => [(0, .sl 3 1 (s155).length), (10, eI (k159 : Int))]) (fun k159 s155 => [(0, none), (1, some ⟨3, (List.map W9 s155), 0, 0x0164⟩)]) (fun k159 s155 => .o (.j 5 0 [0, 1, 7, 9, 10] [0, 1, 2] (fun (s169 : Unit) => []) (fun _ => [(0, none)]) .z (fun _ => .g [0, 1, 7, 9, 10] [0, 1, 2] [] [(0, none)] (.o (.o (.d [0, 1, 2, 3, 4, 5, 6, 7, 8, 9, 10, 11, 12] [2] [] .z)))))) (fun s163 => .z))))))))))))
end Go.Proofs.YtnackipaoepmfaaGreat
set_option linter.unusedSimpArgs false
set_option linter.unusedVariables false
namespace Go.Proofs.YtnackipaoepmfaaGreat
open Go Go.RowKit
set_option maxRecDepth 100000
set_option maxHeartbeats 20000000
instance W2x : ∀ (n : Nat) (p0 : (List Q3)), Ct (Q32 n p0) fun res => Q9 Tryz.prog 0o00107 [(.slice 2 (List.map Z6 p0))] (fun d => d = (.slice 1 (List.map rI res))) :=
 au Tryz.func71 Q32.eq_1 (.o (.o (.o (.w [3] [32] [0, 3, 4] [32] (fun (s7767 : (List Int) × Int) => [(3, .sl 1 32 (s7767.1).length), (4, eI s7767.2)]) (fun s7767 => [(32, some ⟨1, (List.map rI s7767.1), 0, 0x0003⟩)]) (fun s7767 => .i (.w [0, 3, 4] [0] [0, 3, 4, 5] [0] (fun (s9063 : (List Int) × Int) => [(3, .sl 1 0 (s9063.1).length), (5, eI s9063.2)]) (fun s9063 => [(0, some ⟨1, (List.map rI s9063.1), 0, 0x0003⟩)]) (fun s9063 => .i (.o (.ls 33 (.f [0, 3, 4, 5] [0] [0, 3, 4, 5, 6, 7, 8] [0, 73] (fun (k9286 : Nat) (s9282 : (List Int)) => [(3, .sl 1 0 (s9282).length), (8, eI (k9286 : Int))]) (fun k9286 s9282 => [(0, some ⟨1, (List.map rI s9282), 0, 0x0003⟩)]) (fun k9286 s9282 => .o (.j 13 0 [0, 3, 4, 5, 6, 7, 8] [0, 1] (fun (s9307 : (List Int)) => [(3, .sl 1 0 (s9307).length)]) (fun s9307 => [(0, some ⟨1, (List.map rI s9307), 0, 0x0003⟩)]) (.g [0, 3, 4, 5, 6, 7, 8] [0, 1] [] [] (.o (.d [0, 1, 2, 3, 4, 5, 6, 7, 8] [1] [] .z))) (fun _ => .z))) (fun s9290 => .z)))) .z) (fun s9071 => .z)) .z) (fun s7775 => .z)))))
end Go.Proofs.YtnackipaoepmfaaGreat
set_option linter.unusedSimpArgs false
set_option linter.unusedVariables false
namespace Go.Proofs.YtnackipaoepmfaaGreat
open Go Go.RowKit
set_option maxRecDepth 100000
set_option maxHeartbeats 20000000
instance X8t : ∀ (n : Nat) (p0 : (List Q3)), Ct (Q3m n p0) fun res => Q9 Tryz.prog 0o00152 [(.slice 2 (List.map Z6 p0))] (fun d => d = .cptr (Q1k res)) :=
 au Tryz.func106 Q3m.eq_1 .z
end Go.Proofs.YtnackipaoepmfaaGreat
