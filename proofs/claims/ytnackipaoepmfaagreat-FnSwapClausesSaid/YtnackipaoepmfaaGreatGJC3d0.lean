import Derived.Test.YtnackipaoepmfaaGreatGJMir
import Derived.Test.YtnackipaoepmfaaGreatGJAuto
import Derived.Test.YtnackipaoepmfaaGreatGJC2b0
import Derived.Test.YtnackipaoepmfaaGreatGJC1a0
import Derived.Test.YtnackipaoepmfaaGreatGJC0d0
import Derived.Test.YtnackipaoepmfaaGreatGJC1d0
import Derived.Test.YtnackipaoepmfaaGreatGJC2d0
import Derived.Test.YtnackipaoepmfaaGreatGJC0c0
import Derived.Test.YtnackipaoepmfaaGreatGJC1c0
import Derived.Test.YtnackipaoepmfaaGreatGJC2a0
import Derived.Test.YtnackipaoepmfaaGreatGJC2c0
set_option linter.unusedSimpArgs false
set_option linter.unusedVariables false
set_option linter.unusedSimpArgs false
set_option linter.unusedVariables false
namespace Go.Proofs.YtnackipaoepmfaaGreat
open Go Go.RowKit
set_option maxRecDepth 100000
set_option maxHeartbeats 20000000
instance W21 : ∀ (n : Nat) (p0 : Z1) (p1 : (List Q5)), Ct (Q2a n p0 p1) fun res => Q0k Tryz.prog 0o00143 [⟨2, [(Y3 p0)], 0, 0x00c4⟩] [.ptr 2 0 0 0, (.slice 9 (List.map Z8 p1))] (fun H d => H = [some ⟨2, [(Y3 res.2)], 0, 0x00c4⟩, some ⟨9, List.map Z8 res.1, 0, 0x0037⟩] ∧ d = .sl 9 1 res.1.length) :=
 au Tryz.func99 Q2a.eq_1 (.o (.o (.o (.o (.j 2 0 [5] [0, 25] (fun (s37 : Z1 × (List Q5)) => [(5, .sl 9 25 (s37.2).length)]) (fun s37 => [(0, some ⟨2, [(Y3 s37.1)], 0, 0x00c4⟩), (25, some ⟨9, (List.map Z8 s37.2), 0, 0x0037⟩)]) (.o (.i .z (.i .z (.i (.w [5] [0, 25] [5] [0, 25] (fun (s63 : (List Q5)) => [(5, .sl 9 25 (s63).length)]) (fun s63 => [(25, some ⟨9, (List.map Z8 s63), 0, 0x0037⟩)]) (fun s63 => .z) (fun s71 => .z)) .z)))) (fun _ => .z))))))
end Go.Proofs.YtnackipaoepmfaaGreat
set_option linter.unusedSimpArgs false
set_option linter.unusedVariables false
namespace Go.Proofs.YtnackipaoepmfaaGreat
open Go Go.RowKit
set_option maxRecDepth 100000
set_option maxHeartbeats 20000000
instance W40 : ∀ (n : Nat) (p0 : (List Q3)), Ct (Q38 n p0) fun res => Q9 Tryz.prog 0o00107 [(.slice 2 (List.map X0 p0))] (fun d => d = (.slice 1 (List.map rI res))) :=
 au Tryz.func71 Q38.eq_1 (.o (.o (.o (.w [3] [32] [0, 3, 4] [32] (fun (s7767 : (List Int) × Int) => [(3, .sl 1 32 (s7767.1).length), (4, eI s7767.2)]) (fun s7767 => [(32, some ⟨1, (List.map rI s7767.1), 0, 0x0003⟩)]) (fun s7767 => .i (.w [0, 3, 4] [0] [0, 3, 4, 5] [0] (fun (s9063 : (List Int) × Int) => [(3, .sl 1 0 (s9063.1).length), (5, eI s9063.2)]) (fun s9063 => [(0, some ⟨1, (List.map rI s9063.1), 0, 0x0003⟩)]) (fun s9063 => .i (.o (.ls 33 (.f [0, 3, 4, 5] [0] [0, 3, 4, 5, 6, 7, 8] [0, 73] (fun (k9286 : Nat) (s9282 : (List Int)) => [(3, .sl 1 0 (s9282).length), (8, eI (k9286 : Int))]) (fun k9286 s9282 => [(0, some ⟨1, (List.map rI s9282), 0, 0x0003⟩)]) (fun k9286 s9282 => .o (.j 13 0 [0, 3, 4, 5, 6, 7, 8] [0, 1] (fun (s9307 : (List Int)) => [(3, .sl 1 0 (s9307).length)]) (fun s9307 => [(0, some ⟨1, (List.map rI s9307), 0, 0x0003⟩)]) (.g [0, 3, 4, 5, 6, 7, 8] [0, 1] [] [] (.o (.d [0, 1, 2, 3, 4, 5, 6, 7, 8] [1] [] .z))) (fun _ => .z))) (fun s9290 => .z)))) .z) (fun s9071 => .z)) .z) (fun s7775 => .z)))))
end Go.Proofs.YtnackipaoepmfaaGreat
set_option linter.unusedSimpArgs false
set_option linter.unusedVariables false
namespace Go.Proofs.YtnackipaoepmfaaGreat
open Go Go.RowKit
set_option maxRecDepth 100000
set_option maxHeartbeats 20000000
instance X8f : ∀ (n : Nat) (p0 : (List Q3)), Ct (Q25 n p0) fun res => Q9 Tryz.prog 0o00400 [(.slice 2 (List.map X0 p0))] (fun d => d = (eB res)) :=
 au Tryz.func256 Q25.eq_1 (.o (.o (.i .z (.ls 0 (.f [] [] [0, 3] [] (fun (k1226 : Nat) (s1222 : Unit) => [(3, eI (k1226 : Int))]) (fun k1226 s1222 => []) (fun k1226 s1222 => .o (.o (.i .z (.i .z (.i .z (.ls 26 (.f [0, 3] [] [0, 3, 4] [] (fun (k1434 : Nat) (s1430 : Unit) => [(4, eI (k1434 : Int))]) (fun k1434 s1430 => []) (fun k1434 s1430 => .z) (fun s1438 => .z)))))))) (fun s1230 => .z))))))
end Go.Proofs.YtnackipaoepmfaaGreat
set_option linter.unusedSimpArgs false
set_option linter.unusedVariables false
namespace Go.Proofs.YtnackipaoepmfaaGreat
open Go Go.RowKit
set_option maxRecDepth 100000
set_option maxHeartbeats 20000000
instance X8d : ∀ (n : Nat) (p0 : (List Q3)) (p1 : Q6j), Ct (Q67 n p0 p1) fun res => Q9 Tryz.prog 0o00557 [(.slice 2 (List.map X0 p0)), (.agg (Q5r p1))] (fun d => d = (eS res)) :=
 au Tryz.func367 Q67.eq_1 (.o (.o (.b fun (p1 : Q6j) => .lc 0 1 2 Z6 p1.args (.f [3, 5] [0] [0, 3, 5, 6] [0] (fun (k146 : Nat) (s142 : ByteArray) => [(5, eS s142), (6, eI (k146 : Int))]) (fun k146 s142 => []) (fun k146 s142 => .o (.j 5 1 [0, 3, 5, 6] [0] (fun (s165 : ByteArray) => [(5, eS s165)]) (fun _ => []) .z (fun _ => .z))) (fun s150 => .j 9 0 [3, 5] [0] (fun (s175 : ByteArray) => [(5, eS s175)]) (fun _ => []) .z (fun s175 => .j 11 0 [5] [] (fun (s184 : ByteArray) => [(5, eS s184)]) (fun _ => []) .z (fun _ => .z)))))))
end Go.Proofs.YtnackipaoepmfaaGreat
set_option linter.unusedSimpArgs false
set_option linter.unusedVariables false
namespace Go.Proofs.YtnackipaoepmfaaGreat
open Go Go.RowKit
set_option maxRecDepth 100000
set_option maxHeartbeats 20000000
instance W29 : ∀ (p0 : (List Q7)) (p1 : (List Q7)), Ct (Q4f p0 p1) fun res => Q9 Tryz.prog 0o00522 [(.slice 3 (List.map W8 p0)), (.slice 3 (List.map W8 p1))] (fun d => d = (eB res)) :=
 au Tryz.func338 Q4f.eq_1 .z
end Go.Proofs.YtnackipaoepmfaaGreat
