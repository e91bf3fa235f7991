import Derived.Test.YtnackipaoepmfaaGreatGJMir
import Derived.Test.YtnackipaoepmfaaGreatGJAuto
import Derived.Test.YtnackipaoepmfaaGreatGJC2c0
import Derived.Test.YtnackipaoepmfaaGreatGJC0d0
import Derived.Test.YtnackipaoepmfaaGreatGJC1d0
import Derived.Test.YtnackipaoepmfaaGreatGJC2d0
import Derived.Test.YtnackipaoepmfaaGreatGJC1b0
import Derived.Test.YtnackipaoepmfaaGreatGJC2b0
set_option linter.unusedSimpArgs false
set_option linter.unusedVariables false
set_option linter.unusedSimpArgs false
set_option linter.unusedVariables false
namespace Go.Proofs.YtnackipaoepmfaaGreat
open Go Go.RowKit
set_option maxRecDepth 100000
set_option maxHeartbeats 20000000
instance W5p : ∀ (n : Nat) (p0 : (List Q7)) (p1 : (List Q3)) (p2 : Q2) (p3 : Q0), Ct (Q0f n p0 p1 p2 p3) fun res => Q0k Tryz.prog 0o00403 [⟨3, List.map W8 p0, 0, 0x0164⟩] [.sl 3 0 p0.length, (.slice 2 (List.map X0 p1)), (.agg (Z6 p2)), (.agg (Q1 p3))] (fun H d => H = [none, some ⟨3, List.map W8 res, 0, 0x0164⟩] ∧ d = .sl 3 1 res.length) :=
 ar (au Tryz.func259 Q0f.eq_2 (.o (.o (.o (.o (.o (.o (.j 1 0 [0, 1, 6, 7] [0, 9000, 1, 9] (fun (s10 : (List Q7)) => [(0, .sl 3 9000 (s10).length)]) (fun s10 => [(0, none), (9000, some ⟨3, (List.map W8 s10), 0, 0x0164⟩)]) (.i .z (.i .z (.pM 0 .z))) (fun s10 => .o (.ls 29 (.f [0] [0, 1] [0, 1, 7, 9, 10] [0, 1, 3] (fun (k159 : Nat) (s155 : (List Q7)) => [(0, .sl 3 1 (s155).length), (10, eI (k159 : Int))]) (fun k159 s155 => [(0, none), (1, some ⟨3, (List.map W8 s155), 0, 0x0164⟩)]) (fun k159 s155 => .o (.j 5 0 [0, 1, 7, 9, 10] [0, 1, 2] (fun (s169 : Unit) => []) (fun _ => [(0, none)]) .z (fun _ => .g [0, 1, 7, 9, 10] [0, 1, 2] [] [(0, none)] (.o (.o (.d [0, 1, 2, 3, 4, 5, 6, 7, 8, 9, 10, 11, 12] [2] [] .z)))))) (fun s163 => .z))))))))))))
end Go.Proofs.YtnackipaoepmfaaGreat
set_option linter.unusedSimpArgs false
set_option linter.unusedVariables false
namespace Go.Proofs.YtnackipaoepmfaaGreat
open Go Go.RowKit
set_option maxRecDepth 100000
set_option maxHeartbeats 20000000
instance W5w : ∀ (n : Nat) (p0 : Z1) (p1 : (List Q3)) (p2 : (List Int)) (p3 : Q2) (p4 : Int), Ct (Q4r n p0 p1 p2 p3 p4) fun res => Q0k Tryz.prog 0o00106 [⟨2, [(Y3 p0)], 0, 0x00c4⟩] [.ptr 2 0 0 0, (.slice 2 (List.map X0 p1)), (.slice 1 (List.map rI p2)), (.agg (Z6 p3)), (eI p4)] (fun H d => H = [some ⟨2, [(Y3 res.2)], 0, 0x00c4⟩] ∧ d = (.agg (V0 res.1))) :=
 ar (au Tryz.func70 Q4r.eq_2 (.o (.o (.o (.o (.o (.o (.o (.i .z (.o (.ls 26 (.f [0, 1, 2, 4, 8, 10, 12] [0, 1, 9, 73] [0, 1, 2, 4, 8, 10, 11, 12, 13] [0, 1, 9, 73] (fun (k216 : Nat) (s212 : (List Int)) => [(12, .sl 1 73 (s212).length), (13, eI (k216 : Int))]) (fun k216 s212 => [(73, some ⟨1, (List.map rI s212), 0, 0x0003⟩)]) (fun k216 s212 => .o (.j 8 0 [0, 1, 2, 4, 8, 10, 11, 12, 13] [0, 1, 2, 3] (fun (s237 : (List Int)) => [(12, .sl 1 3 (s237).length)]) (fun s237 => [(3, some ⟨1, (List.map rI s237), 0, 0x0003⟩)]) (.g [0, 1, 2, 4, 8, 10, 11, 12, 13] [0, 1, 2, 3] [] [] (.o (.d [0, 1, 2, 3, 4, 5, 6, 7, 8] [1] [] .z))) (fun _ => .z))) (fun s220 => .o (.b fun (x257 : Int) => .o (.pC 68 2 3 0x002f (.ls 75 (.f [10, 15] [0, 2, 68, 140] [0, 1, 2, 4, 10, 15, 16, 17] [0, 2, 68, 140] (fun (k316 : Nat) (s312 : Z1 × (List Q4)) => [(17, eI (k316 : Int))]) (fun k316 s312 => [(0, some ⟨2, [(Y3 s312.1)], 0, 0x00c4⟩), (1000000068, some ⟨3, [[(eI x257), (eI 0), (.sl 3 140 (s312.2).length)]], 0, 0x002f⟩), (140, some ⟨3, (List.map V0 s312.2), 0, 0x002f⟩)]) (fun k316 s312 => .o (.g [0, 1, 2, 4, 10, 15, 16, 17] [0, 1, 2, 3] [] [(1000000002, some ⟨3, [[(eI x257), (eI 0), (.sl 3 3 (s312.2).length)]], 0, 0x002f⟩)] (.o (.o (.d [0, 1, 2, 3, 4, 5, 6, 7, 8, 9, 10, 11, 12, 13, 14, 15] [2] [96] .z))))) (fun s320 => .pF 3 .z))))))))))))))))))
end Go.Proofs.YtnackipaoepmfaaGreat
set_option linter.unusedSimpArgs false
set_option linter.unusedVariables false
namespace Go.Proofs.YtnackipaoepmfaaGreat
open Go Go.RowKit
set_option maxRecDepth 100000
set_option maxHeartbeats 20000000
instance X9r : ∀ (n : Nat) (p0 : (List Q3)), Ct (Q3w n p0) fun res => Q9 Tryz.prog 0o00152 [(.slice 2 (List.map X0 p0))] (fun d => d = .cptr (Q1n res)) :=
 au Tryz.func106 Q3w.eq_1 .z
end Go.Proofs.YtnackipaoepmfaaGreat
set_option linter.unusedSimpArgs false
set_option linter.unusedVariables false
namespace Go.Proofs.YtnackipaoepmfaaGreat
open Go Go.RowKit
set_option maxRecDepth 100000
set_option maxHeartbeats 20000000
instance W2b : ∀ (p0 : (List Q3)) (p1 : Q2) (p2 : Q0), Ct (Q4g p0 p1 p2) fun res => Q9 Tryz.prog 0o00456 [(.slice 2 (List.map X0 p0)), (.agg (Z6 p1)), (.agg (Q1 p2))] (fun d => d = (.slice 2 (List.map Z6 res))) :=
 au Tryz.func302 Q4g.eq_1 .z
end Go.Proofs.YtnackipaoepmfaaGreat
set_option linter.unusedSimpArgs false
set_option linter.unusedVariables false
namespace Go.Proofs.YtnackipaoepmfaaGreat
open Go Go.RowKit
set_option maxRecDepth 100000
set_option maxHeartbeats 20000000
instance W5n : ∀ (n : Nat) (p0 : (List Q3)) (p1 : (List Int)) (p2 : Q2) (p3 : (List Q0)), Ct (Q2p n p0 p1 p2 p3) fun res => Q9 Tryz.prog 0o00474 [(.slice 2 (List.map X0 p0)), (.slice 1 (List.map rI p1)), (.agg (Z6 p2)), (.slice 6 (List.map Q1 p3))] (fun d => d = (.slice 6 (List.map Q1 res))) :=
 au Tryz.func316 Q2p.eq_1 (.o (.o (.o (.o (.o (.ls 3 (.f [9] [16] [0, 1, 3, 6, 9, 10] [0, 16] (fun (k81 : Nat) (s77 : (List Q0)) => [(9, .sl 6 16 (s77).length), (10, eI (k81 : Int))]) (fun k81 s77 => [(16, some ⟨6, (List.map Q1 s77), 0, 0x0033⟩)]) (fun k81 s77 => .o (.j 5 0 [0, 1, 3, 6, 9, 10] [0, 1] (fun (s89 : (List Q0)) => [(9, .sl 6 1 (s89).length)]) (fun s89 => [(1, some ⟨6, (List.map Q1 s89), 0, 0x0033⟩)]) (.g [0, 1, 3, 6, 9, 10] [0, 1] [] [] (.o (.d [0, 1, 2, 3, 4, 5, 6, 7] [0] [] .z))) (fun _ => .z))) (fun s85 => .z))))))))
end Go.Proofs.YtnackipaoepmfaaGreat
