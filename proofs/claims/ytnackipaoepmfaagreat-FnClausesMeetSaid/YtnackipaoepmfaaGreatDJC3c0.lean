import Derived.Test.YtnackipaoepmfaaGreatDJMir
import Derived.Test.YtnackipaoepmfaaGreatDJAuto
import Derived.Test.YtnackipaoepmfaaGreatDJC0d0
import Derived.Test.YtnackipaoepmfaaGreatDJC1d0
import Derived.Test.YtnackipaoepmfaaGreatDJC2d0
import Derived.Test.YtnackipaoepmfaaGreatDJC1a0
import Derived.Test.YtnackipaoepmfaaGreatDJC0c0
import Derived.Test.YtnackipaoepmfaaGreatDJC1b0
import Derived.Test.YtnackipaoepmfaaGreatDJC2a0
import Derived.Test.YtnackipaoepmfaaGreatDJC2c0
import Derived.Test.YtnackipaoepmfaaGreatDJC0a0
set_option linter.unusedSimpArgs false
set_option linter.unusedVariables false
set_option linter.unusedSimpArgs false
set_option linter.unusedVariables false
namespace Go.Proofs.YtnackipaoepmfaaGreat
open Go Go.RowKit
set_option maxRecDepth 100000
set_option maxHeartbeats 20000000
instance W4m : ∀ (n : Nat) (p0 : X0) (p1 : (List Q3)) (p2 : (List Int)) (p3 : Q2) (p4 : Int), Ct (Q4g n p0 p1 p2 p3 p4) fun res => Q1d Tryz.prog 0o00106 [⟨2, [(Q08 p0)], 0, 0x00c4⟩] [.ptr 2 0 0 0, (.slice 2 (List.map Z6 p1)), (.slice 1 (List.map rI p2)), (.agg (Z2 p3)), (eI p4)] (fun H d => H = [some ⟨2, [(Q08 res.2)], 0, 0x00c4⟩] ∧ d = (.agg (X3 res.1))) :=
 ar (au Tryz.func70 Q4g.eq_2 (.o (.o (.o (.o (.o (.o (.o (.i .z (.o (.ls 26 (.f [0, 1, 2, 4, 8, 10, 12] [0, 1, 9, 73] [0, 1, 2, 4, 8, 10, 11, 12, 13] [0, 1, 9, 73] (fun (k216 : Nat) (s212 : (List Int)) => [(12, .sl 1 73 (s212).length), (13, eI (k216 : Int))]) (fun k216 s212 => [(73, some ⟨1, (List.map rI s212), 0, 0x0003⟩)]) (fun k216 s212 => .o (.j 8 0 [0, 1, 2, 4, 8, 10, 11, 12, 13] [0, 1, 2, 3] (fun (s237 : (List Int)) => [(12, .sl 1 3 (s237).length)]) (fun s237 => [(3, some ⟨1, (List.map rI s237), 0, 0x0003⟩)]) (.g [0, 1, 2, 4, 8, 10, 11, 12, 13] [0, 1, 2, 3] [] [] (.o (.d [0, 1, 2, 3, 4, 5, 6, 7, 8] [1] [] .z))) (fun _ => .z))) (fun s220 => .o (.b fun (x257 : Int) => .o (.pC 68 2 3 0x002f (.ls 75 (.f [10, 15] [0, 2, 68, 140] [0, 1, 2, 4, 10, 15, 16, 17] [0, 2, 68, 140] (fun (k316 : Nat) (s312 : X0 × (List Q6)) => [(17, eI (k316 : Int))]) (fun k316 s312 => [(0, some ⟨2, [(Q08 s312.1)], 0, 0x00c4⟩), (1000000068, some ⟨3, [[(eI x257), (eI 0), (.sl 3 140 (s312.2).length)]], 0, 0x002f⟩), (140, some ⟨3, (List.map X3 s312.2), 0, 0x002f⟩)]) (fun k316 s312 => .o (.g [0, 1, 2, 4, 10, 15, 16, 17] [0, 1, 2, 3] [] [(1000000002, some ⟨3, [[(eI x257), (eI 0), (.sl 3 3 (s312.2).length)]], 0, 0x002f⟩)] (.o (.o (.d [0, 1, 2, 3, 4, 5, 6, 7, 8, 9, 10, 11, 12, 13, 14, 15] [2] [96] .z))))) (fun s320 => .pF 3 .z))))))))))))))))))
end Go.Proofs.YtnackipaoepmfaaGreat
set_option linter.unusedSimpArgs false
set_option linter.unusedVariables false
namespace Go.Proofs.YtnackipaoepmfaaGreat
open Go Go.RowKit
set_option maxRecDepth 100000
set_option maxHeartbeats 20000000
instance X7k : ∀ (n : Nat) (p0 : (List Q3)), Ct (Q24 n p0) fun res => Q9 Tryz.prog 0o00400 [(.slice 2 (List.map Z6 p0))] (fun d => d = (eB res)) :=
 au Tryz.func256 Q24.eq_1 (.o (.o (.i .z (.ls 0 (.f [] [] [0, 3] [] (fun (k1226 : Nat) (s1222 : Unit) => [(3, eI (k1226 : Int))]) (fun k1226 s1222 => []) (fun k1226 s1222 => .o (.o (.i .z (.i .z (.i .z (.ls 26 (.f [0, 3] [] [0, 3, 4] [] (fun (k1434 : Nat) (s1430 : Unit) => [(4, eI (k1434 : Int))]) (fun k1434 s1430 => []) (fun k1434 s1430 => .z) (fun s1438 => .z)))))))) (fun s1230 => .z))))))
end Go.Proofs.YtnackipaoepmfaaGreat
set_option linter.unusedSimpArgs false
set_option linter.unusedVariables false
namespace Go.Proofs.YtnackipaoepmfaaGreat
open Go Go.RowKit
set_option maxRecDepth 100000
set_option maxHeartbeats 20000000
instance X7i : ∀ (n : Nat) (p0 : (List Q3)) (p1 : Q6b), Ct (Q5x n p0 p1) fun res => Q9 Tryz.prog 0o00557 [(.slice 2 (List.map Z6 p0)), (.agg (Q5f p1))] (fun d => d = (eS res)) :=
 au Tryz.func367 Q5x.eq_1 (.o (.o (.b fun (p1 : Q6b) => .lc 0 1 2 Z2 p1.args (.f [3, 5] [0] [0, 3, 5, 6] [0] (fun (k146 : Nat) (s142 : ByteArray) => [(5, eS s142), (6, eI (k146 : Int))]) (fun k146 s142 => []) (fun k146 s142 => .o (.j 5 1 [0, 3, 5, 6] [0] (fun (s165 : ByteArray) => [(5, eS s165)]) (fun _ => []) .z (fun _ => .z))) (fun s150 => .j 9 0 [3, 5] [0] (fun (s175 : ByteArray) => [(5, eS s175)]) (fun _ => []) .z (fun s175 => .j 11 0 [5] [] (fun (s184 : ByteArray) => [(5, eS s184)]) (fun _ => []) .z (fun _ => .z)))))))
end Go.Proofs.YtnackipaoepmfaaGreat
