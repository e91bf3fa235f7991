import Derived.Test.YtnackipaoepmfaaGreatJMir
import Derived.Test.YtnackipaoepmfaaGreatJAuto
import Derived.Test.YtnackipaoepmfaaGreatJC2b0
import Derived.Test.YtnackipaoepmfaaGreatJC1c0
import Derived.Test.YtnackipaoepmfaaGreatJC0d0
import Derived.Test.YtnackipaoepmfaaGreatJC1d0
import Derived.Test.YtnackipaoepmfaaGreatJC2d0
import Derived.Test.YtnackipaoepmfaaGreatJC0c0
import Derived.Test.YtnackipaoepmfaaGreatJC2a0
import Derived.Test.YtnackipaoepmfaaGreatJC1a0
import Derived.Test.YtnackipaoepmfaaGreatJC0b0
set_option linter.unusedSimpArgs false
set_option linter.unusedVariables false
set_option linter.unusedSimpArgs false
set_option linter.unusedVariables false
namespace Go.Proofs.YtnackipaoepmfaaGreat
open Go Go.RowKit
set_option maxRecDepth 100000
set_option maxHeartbeats 20000000
instance W24 : ∀ (n : Nat) (p0 : Z1) (p1 : (List Q4)), Ct (Q2d n p0 p1) fun res => Q0u Tryz.prog 0o00143 [⟨2, [(Y3 p0)], 0, 0x00c4⟩] [.ptr 2 0 0 0, (.slice 9 (List.map Z7 p1))] (fun H d => H = [some ⟨2, [(Y3 res.2)], 0, 0x00c4⟩, some ⟨9, List.map Z7 res.1, 0, 0x0037⟩] ∧ d = .sl 9 1 res.1.length) :=
 au Tryz.func99 Q2d.eq_1 (.o (.o (.o (.o (.j 2 0 [5] [0, 25] (fun (s37 : Z1 × (List Q4)) => [(5, .sl 9 25 (s37.2).length)]) (fun s37 => [(0, some ⟨2, [(Y3 s37.1)], 0, 0x00c4⟩), (25, some ⟨9, (List.map Z7 s37.2), 0, 0x0037⟩)]) (.o (.i .z (.i .z (.i (.w [5] [0, 25] [5] [0, 25] (fun (s63 : (List Q4)) => [(5, .sl 9 25 (s63).length)]) (fun s63 => [(25, some ⟨9, (List.map Z7 s63), 0, 0x0037⟩)]) (fun s63 => .z) (fun s71 => .z)) .z)))) (fun _ => .z))))))
end Go.Proofs.YtnackipaoepmfaaGreat
set_option linter.unusedSimpArgs false
set_option linter.unusedVariables false
namespace Go.Proofs.YtnackipaoepmfaaGreat
open Go Go.RowKit
set_option maxRecDepth 100000
set_option maxHeartbeats 20000000
instance W45 : ∀ (n : Nat) (p0 : (List Q3)), Ct (Q27 n p0) fun res => Q9 Tryz.prog 0o00107 [(.slice 2 (List.map X2 p0))] (fun d => d = (.slice 1 (List.map rI res))) :=
 au Tryz.func71 Q27.eq_1 (.o (.o (.o (.w [3] [32] [0, 3, 4] [32] (fun (s7767 : (List Int) × Int) => [(3, .sl 1 32 (s7767.1).length), (4, eI s7767.2)]) (fun s7767 => [(32, some ⟨1, (List.map rI s7767.1), 0, 0x0003⟩)]) (fun s7767 => .i (.w [0, 3, 4] [0] [0, 3, 4, 5] [0] (fun (s9063 : (List Int) × Int) => [(3, .sl 1 0 (s9063.1).length), (5, eI s9063.2)]) (fun s9063 => [(0, some ⟨1, (List.map rI s9063.1), 0, 0x0003⟩)]) (fun s9063 => .i (.o (.ls 33 (.f [0, 3, 4, 5] [0] [0, 3, 4, 5, 6, 7, 8] [0, 73] (fun (k9286 : Nat) (s9282 : (List Int)) => [(3, .sl 1 0 (s9282).length), (8, eI (k9286 : Int))]) (fun k9286 s9282 => [(0, some ⟨1, (List.map rI s9282), 0, 0x0003⟩)]) (fun k9286 s9282 => .o (.j 13 0 [0, 3, 4, 5, 6, 7, 8] [0, 1] (fun (s9307 : (List Int)) => [(3, .sl 1 0 (s9307).length)]) (fun s9307 => [(0, some ⟨1, (List.map rI s9307), 0, 0x0003⟩)]) (.g [0, 3, 4, 5, 6, 7, 8] [0, 1] [] [] (.o (.d [0, 1, 2, 3, 4, 5, 6, 7, 8] [1] [] .z))) (fun _ => .z))) (fun s9290 => .z)))) .z) (fun s9071 => .z)) .z) (fun s7775 => .z)))))
end Go.Proofs.YtnackipaoepmfaaGreat
set_option linter.unusedSimpArgs false
set_option linter.unusedVariables false
namespace Go.Proofs.YtnackipaoepmfaaGreat
open Go Go.RowKit
set_option maxRecDepth 100000
set_option maxHeartbeats 20000000
instance X8n : ∀ (n : Nat) (p0 : (List Q3)), Ct (Q29 n p0) fun res => Q9 Tryz.prog 0o00400 [(.slice 2 (List.map X2 p0))] (fun d => d = (eB res)) :=
 au Tryz.func256 Q29.eq_1 (.o (.o (.i .z (.ls 0 (.f [] [] [0, 3] [] (fun (k1226 : Nat) (s1222 : Unit) => [(3, eI (k1226 : Int))]) (fun k1226 s1222 => []) (fun k1226 s1222 => .o (.o (.i .z (.i .z (.i .z (.ls 26 (.f [0, 3] [] [0, 3, 4] [] (fun (k1434 : Nat) (s1430 : Unit) => [(4, eI (k1434 : Int))]) (fun k1434 s1430 => []) (fun k1434 s1430 => .z) (fun s1438 => .z)))))))) (fun s1230 => .z))))))
end Go.Proofs.YtnackipaoepmfaaGreat
set_option linter.unusedSimpArgs false
set_option linter.unusedVariables false
namespace Go.Proofs.YtnackipaoepmfaaGreat
open Go Go.RowKit
set_option maxRecDepth 100000
set_option maxHeartbeats 20000000
instance W6h : ∀ (n : Nat) (p0 : (List Q3)) (p1 : Q6k), Ct (Q96 n p0 p1) fun res => Q9 Tryz.prog 0o00406 [(.slice 2 (List.map X2 p0)), (.agg (Q5r p1))] (fun d => d = (eB res)) :=
 au Tryz.func262 Q96.eq_1 .z
end Go.Proofs.YtnackipaoepmfaaGreat
set_option linter.unusedSimpArgs false
set_option linter.unusedVariables false
namespace Go.Proofs.YtnackipaoepmfaaGreat
open Go Go.RowKit
set_option maxRecDepth 100000
set_option maxHeartbeats 20000000
instance W2h : ∀ (n : Nat) (p0 : (List Q4)), Ct (Q4f n p0) fun res => Q9 Tryz.prog 0o00151 [(.slice 9 (List.map Z7 p0))] (fun d => d = .tup [(.slice 6 (List.map Q1 res.1)), (eB res.2)]) :=
 au Tryz.func105 Q4f.eq_1 (.o (.o (.pN 4 6 0x0033 (.ls 0 (.f [4] [48] [4, 9, 10, 11] [48] (fun (k111 : Nat) (s107 : (List Q0)) => [(4, .sl 6 48 (s107).length), (11, eI (k111 : Int))]) (fun k111 s107 => [(48, some ⟨6, (List.map Q1 s107), 0, 0x0033⟩)]) (fun k111 s107 => .o (.j 4 0 [4, 9, 10, 11] [0] (fun (s122 : (List Q0)) => [(4, .sl 6 0 (s122).length)]) (fun s122 => [(0, some ⟨6, (List.map Q1 s122), 0, 0x0033⟩)]) .z (fun _ => .z))) (fun s115 => .z))))))
end Go.Proofs.YtnackipaoepmfaaGreat
