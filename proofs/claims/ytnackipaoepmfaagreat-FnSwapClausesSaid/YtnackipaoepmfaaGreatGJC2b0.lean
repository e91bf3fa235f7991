import Derived.Test.YtnackipaoepmfaaGreatGJMir
import Derived.Test.YtnackipaoepmfaaGreatGJAuto
import Derived.Test.YtnackipaoepmfaaGreatGJC1a0
import Derived.Test.YtnackipaoepmfaaGreatGJC0d0
import Derived.Test.YtnackipaoepmfaaGreatGJC1b0
import Derived.Test.YtnackipaoepmfaaGreatGJC1c0
import Derived.Test.YtnackipaoepmfaaGreatGJC0b0
import Derived.Test.YtnackipaoepmfaaGreatGJC1d0
import Derived.Test.YtnackipaoepmfaaGreatGJC0c0
import Derived.Test.YtnackipaoepmfaaGreatGJC0a0
set_option linter.unusedSimpArgs false
set_option linter.unusedVariables false
set_option linter.unusedSimpArgs false
set_option linter.unusedVariables false
namespace Go.Proofs.YtnackipaoepmfaaGreat
open Go Go.RowKit
set_option maxRecDepth 100000
set_option maxHeartbeats 20000000
instance X34 : ∀ (n : Nat) (p0 : Q5) (p1 : Q5), Ct (Q3d n p0 p1) fun res => Q9 Tryz.prog 0o00142 [(.agg (Z8 p0)), (.agg (Z8 p1))] (fun d => d = (eB res)) :=
 au Tryz.func98 Q3d.eq_1 .z
end Go.Proofs.YtnackipaoepmfaaGreat
set_option linter.unusedSimpArgs false
set_option linter.unusedVariables false
namespace Go.Proofs.YtnackipaoepmfaaGreat
open Go Go.RowKit
set_option maxRecDepth 100000
set_option maxHeartbeats 20000000
instance W24 : ∀ (p0 : Z1) (p1 : Q0), Ct (Q1i p0 p1) fun res => Q0k Tryz.prog 0o00263 [⟨2, [(Y3 p0)], 0, 0x00c4⟩] [.ptr 2 0 0 0, (.agg (Q1 p1))] (fun H d => H = [some ⟨2, [(Y3 res.2)], 0, 0x00c4⟩] ∧ d = (.agg (Q1 res.1))) :=
 au Tryz.func179 Q1i.eq_1 (.o (.b fun (p1 : Q0) => .o (.j 3 0 [4, 5] [0, 9, 25, 65] (fun (s17 : Z1 × Int × Int × Int × Int × (List Q0)) => []) (fun s17 => [(0, some ⟨2, [(Y3 s17.1)], 0, 0x00c4⟩), (1000000025, some ⟨6, [[(eI s17.2.1), (eI s17.2.2.1), (eI s17.2.2.2.1), (eI p1.m), (eI s17.2.2.2.2.1), (.sl 6 65 (s17.2.2.2.2.2).length)]], 0, 0x0033⟩), (65, some ⟨6, (List.map Q1 s17.2.2.2.2.2), 0, 0x0033⟩)]) .z (fun _ => .pF 3 .z))))
end Go.Proofs.YtnackipaoepmfaaGreat
set_option linter.unusedSimpArgs false
set_option linter.unusedVariables false
namespace Go.Proofs.YtnackipaoepmfaaGreat
open Go Go.RowKit
set_option maxRecDepth 100000
set_option maxHeartbeats 20000000
instance W2d : ∀ (p0 : Q2) (q0 : (List Q3)), Ct (Q7c p0 q0) fun res => Q9 Tryz.prog 0o00477 [(.agg (Z6 p0)), .cptr [(.slice 2 (List.map X0 q0))]] (fun d => d = (eB res)) :=
 au Tryz.func319 Q7c.eq_1 .z
end Go.Proofs.YtnackipaoepmfaaGreat
set_option linter.unusedSimpArgs false
set_option linter.unusedVariables false
namespace Go.Proofs.YtnackipaoepmfaaGreat
open Go Go.RowKit
set_option maxRecDepth 100000
set_option maxHeartbeats 20000000
instance X8i : ∀ (p0 : Q7) (q0 : (List Q7)), Ct (Q4u p0 q0) fun res => Q9 Tryz.prog 0o00561 [(.agg (W8 p0)), .cptr [(.slice 3 (List.map W8 q0))]] (fun d => d = (eB res)) :=
 au Tryz.func369 Q4u.eq_1 .z
end Go.Proofs.YtnackipaoepmfaaGreat
set_option linter.unusedSimpArgs false
set_option linter.unusedVariables false
namespace Go.Proofs.YtnackipaoepmfaaGreat
open Go Go.RowKit
set_option maxRecDepth 100000
set_option maxHeartbeats 20000000
instance W8a : ∀ (p0 : (List Q3)) (p1 : Q2) (p2 : Q0), Ct (Q5k p0 p1 p2) fun res => Q9 Tryz.prog 0o00516 [(.slice 2 (List.map X0 p0)), (.agg (Z6 p1)), (.agg (Q1 p2))] (fun d => d = .tup [(.slice 2 (List.map Z6 res.1)), (eB res.2)]) :=
 au Tryz.func334 Q5k.eq_1 (.o (.o (.o (.i .z (.i .z (.i (.g [4, 5] [0, 8] [] [] (.i (.o (.i (.i (.i (.d [0, 1, 2, 3, 4, 5, 6, 7, 8, 9, 10, 11, 12, 13, 14, 15, 16, 17, 18, 19, 20, 21, 22, 23, 24, 25] [0, 1] [] .z) (.d [0, 1, 2, 3, 4, 5, 6, 7, 8, 9, 10, 11, 12, 13, 14, 15, 16, 17, 18, 19, 20, 21, 22, 23, 24, 25] [0, 1] [] .z)) (.d [0, 1, 2, 3, 4, 5, 6, 7, 8, 9, 10, 11, 12, 13, 14, 15, 16, 17, 18, 19, 20, 21, 22, 23, 24, 25] [0, 1] [] .z)) (.d [0, 1, 2, 3, 4, 5, 6, 7, 8, 9, 10, 11, 12, 13, 14, 15, 16, 17, 18, 19, 20, 21, 22, 23, 24, 25] [0, 1] [] .z))) (.d [0, 1, 2, 3, 4, 5, 6, 7, 8, 9, 10, 11, 12, 13, 14, 15, 16, 17, 18, 19, 20, 21, 22, 23, 24, 25] [0] [] .z))) (.i (.g [0, 4, 5] [0, 8] [] [] (.o (.o (.d [0, 1, 3, 4, 2, 5, 6] [0, 1] [] .z)))) (.i (.g [4, 5] [0, 8] [] [] (.o (.dz [0, 1, 3, 4, 2, 5, 6] [0, 1] [1048649] [] .z))) (.i (.g [4, 5] [0, 8] [] [] (.o (.i (.o (.dz [0, 2, 3, 4, 5, 6, 7, 8, 1, 9, 10] [0, 1] [1048655] [] .z)) (.dz [0, 2, 3, 4, 5, 6, 7, 8, 1, 9, 10] [0, 1] [1048655] [] .z)))) .z)))))))))
end Go.Proofs.YtnackipaoepmfaaGreat
set_option linter.unusedSimpArgs false
set_option linter.unusedVariables false
namespace Go.Proofs.YtnackipaoepmfaaGreat
open Go Go.RowKit
set_option maxRecDepth 100000
set_option maxHeartbeats 20000000
instance W49 : ∀ (p0 : Q3j) (p1 : (List Q7)), Ct (Q56 p0 p1) fun res => Q9 Tryz.prog 0o00371 [(.agg (Q77 p0)), (.slice 3 (List.map W8 p1))] (fun d => d = (eB res)) :=
 au Tryz.func249 Q56.eq_1 .z
end Go.Proofs.YtnackipaoepmfaaGreat
set_option linter.unusedSimpArgs false
set_option linter.unusedVariables false
namespace Go.Proofs.YtnackipaoepmfaaGreat
open Go Go.RowKit
set_option maxRecDepth 100000
set_option maxHeartbeats 20000000
instance W5k : ∀ (p0 : (List Q3)) (p1 : Q2) (p2 : Int), Ct (Q3l p0 p1 p2) fun res => Q9 Tryz.prog 0o00504 [(.slice 2 (List.map X0 p0)), (.agg (Z6 p1)), (eI p2)] (fun d => d = (.agg (Q1 res))) :=
 au Tryz.func324 Q3l.eq_1 (.o (.o (.b fun (p2 : Int) => .o (.pC 32 5 6 0x0033 (.ls 15 (.f [6, 7] [8, 32, 96] [6, 7, 8, 9] [8, 32, 96] (fun (k49 : Nat) (s45 : (List Q0)) => [(9, eI (k49 : Int))]) (fun k49 s45 => [(1000000032, some ⟨6, [[(eI 4), (eI p2), (eI 0), (eI 0), (eI 0), (.sl 6 96 (s45).length)]], 0, 0x0033⟩), (96, some ⟨6, (List.map Q1 s45), 0, 0x0033⟩)]) (fun k49 s45 => .o (.g [6, 7, 8, 9] [0, 1, 2] [] [(1000000001, some ⟨6, [[(eI 4), (eI p2), (eI 0), (eI 0), (eI 0), (.sl 6 2 (s45).length)]], 0, 0x0033⟩)] (.o (.o (.d [0, 1, 2, 3, 4, 5, 6] [1] [27] .z))))) (fun s53 => .z)))))))
end Go.Proofs.YtnackipaoepmfaaGreat
