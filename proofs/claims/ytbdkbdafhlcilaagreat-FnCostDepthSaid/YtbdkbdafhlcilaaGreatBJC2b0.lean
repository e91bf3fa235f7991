import Derived.Test.YtbdkbdafhlcilaaGreatBJMir
import Derived.Test.YtbdkbdafhlcilaaGreatBJAuto
import Derived.Test.YtbdkbdafhlcilaaGreatBJC1d0
import Derived.Test.YtbdkbdafhlcilaaGreatBJC0d0
import Derived.Test.YtbdkbdafhlcilaaGreatBJC0c0
import Derived.Test.YtbdkbdafhlcilaaGreatBJC1c0
import Derived.Test.YtbdkbdafhlcilaaGreatBJC0b0
import Derived.Test.YtbdkbdafhlcilaaGreatBJC1b0
import Derived.Test.YtbdkbdafhlcilaaGreatBJC1a0
set_option linter.unusedSimpArgs false
set_option linter.unusedVariables false
set_option linter.unusedSimpArgs false
set_option linter.unusedVariables false
namespace Go.Proofs.YtbdkbdafhlcilaaGreat
open Go Go.RowKit
set_option maxRecDepth 100000
set_option maxHeartbeats 20000000
instance X96 : ∀ (p0 : Q9) (q0 : (List Q9)), Ct (Q50 p0 q0) fun res => Z1 Tryz.prog 0o00455 [(.agg (V5 p0)), .cptr [(.slice 3 (List.map V5 q0))]] (fun d => d = (eB res)) :=
 au Tryz.func301 Q50.eq_1 .z
end Go.Proofs.YtbdkbdafhlcilaaGreat
set_option linter.unusedSimpArgs false
set_option linter.unusedVariables false
namespace Go.Proofs.YtbdkbdafhlcilaaGreat
open Go Go.RowKit
set_option maxRecDepth 100000
set_option maxHeartbeats 20000000
instance W6m : ∀ (n : Nat) (p0 : (List Q6)), Ct (Q4v n p0) fun res => Z1 Tryz.prog 0o00213 [(.slice 9 (List.map V0 p0))] (fun d => d = (.slice 3 (List.map Q1n res))) :=
 au Tryz.func139 Q4v.eq_1 (.o (.o (.ls 0 (.f [3] [8] [0, 3, 4] [8] (fun (k366 : Nat) (s362 : (List V4)) => [(3, .sl 3 8 (s362).length), (4, eI (k366 : Int))]) (fun k366 s362 => [(8, some ⟨3, (List.map Q1n s362), 0, 0x0109⟩)]) (fun k366 s362 => .o (.o (.ll 74 (.f [0, 3, 4] [0] [0, 3, 4, 5, 6] [0, 74] (fun (k428 : Nat) (s424 : (List V4)) => [(3, .sl 3 0 (s424).length), (6, eI (k428 : Int))]) (fun k428 s424 => [(0, some ⟨3, (List.map Q1n s424), 0, 0x0109⟩)]) (fun k428 s424 => .o (.o (.o (.pF 154 .z)))) (fun s432 => .z))))) (fun s370 => .z)))))
end Go.Proofs.YtbdkbdafhlcilaaGreat
set_option linter.unusedSimpArgs false
set_option linter.unusedVariables false
namespace Go.Proofs.YtbdkbdafhlcilaaGreat
open Go Go.RowKit
set_option maxRecDepth 100000
set_option maxHeartbeats 20000000
instance W4m : ∀ (n : Nat) (p0 : (List Q3)) (p1 : Q5) (p2 : Q0), Ct (Q3d n p0 p1 p2) fun res => Z1 Tryz.prog 0o00363 [(.slice 2 (List.map X9 p0)), (.agg (X7 p1)), (.agg (Q8 p2))] (fun d => d = (.slice 2 (List.map X7 res))) :=
 au Tryz.func243 Q3d.eq_1 (.o (.o (.o (.o (.i .z (.w [7] [48] [4, 5, 7, 8] [0, 8, 48] (fun (s52 : (List Q5) × Int) => [(7, .sl 2 48 (s52.1).length), (8, eI s52.2)]) (fun s52 => [(48, some ⟨2, (List.map X7 s52.1), 0, 0x0019⟩)]) (fun s52 => .z) (fun s60 => .z)))))))
end Go.Proofs.YtbdkbdafhlcilaaGreat
set_option linter.unusedSimpArgs false
set_option linter.unusedVariables false
namespace Go.Proofs.YtbdkbdafhlcilaaGreat
open Go Go.RowKit
set_option maxRecDepth 100000
set_option maxHeartbeats 20000000
instance W92 : ∀ (n : Nat) (p0 : (List Q6)) (p1 : Z9) (p2 : Q1), Ct (Q4k n p0 p1 p2) fun res => Z1 Tryz.prog 0o00107 [(.slice 9 (List.map V0 p0)), (.agg (Q16 p1)), (.agg (X0 p2))] (fun d => d = .tup [(eI res.1), (.slice 4 (List.map Q5p res.2.1)), (eI res.2.2)]) :=
 au Tryz.func71 Q4k.eq_1 (.o (.o (.o (.o (.w [9] [] [0, 4, 5, 9] [0, 8] (fun (s52 : Z9 × Int) => [(9, eI s52.2)]) (fun s52 => [(0, some ⟨6, [(Q16 s52.1)], 0, 0x002b⟩)]) (fun s52 => .i (.i .z (.g [0, 4, 5, 9] [0, 1] [] [] (.o (.o (.dz [0, 1, 2, 3, 4, 5, 6, 7, 8, 9, 10, 11, 12] [0, 1] [1048587] [] .z))))) .z) (fun s60 => .z))))))
end Go.Proofs.YtbdkbdafhlcilaaGreat
set_option linter.unusedSimpArgs false
set_option linter.unusedVariables false
namespace Go.Proofs.YtbdkbdafhlcilaaGreat
open Go Go.RowKit
set_option maxRecDepth 100000
set_option maxHeartbeats 20000000
instance W2l : ∀ (p0 : Z7) (p1 : Q0), Ct (Q3p p0 p1) fun res => J8 Tryz.prog 0o00230 [⟨2, [(Y0 p0)], 0, 0x009a⟩] [.ptr 2 0 0 0, (.agg (Q8 p1))] (fun H d => H = [some ⟨2, [(Y0 res.2)], 0, 0x009a⟩] ∧ d = (.agg (Q8 res.1))) :=
 au Tryz.func152 Q3p.eq_1 (.o (.b fun (p1 : Q0) => .o (.j 3 0 [4, 5] [0, 9, 25, 65] (fun (s17 : Z7 × Int × Int × Int × Int × (List Q0)) => []) (fun s17 => [(0, some ⟨2, [(Y0 s17.1)], 0, 0x009a⟩), (1000000025, some ⟨6, [[(eI s17.2.1), (eI s17.2.2.1), (eI s17.2.2.2.1), (eI p1.m), (eI s17.2.2.2.2.1), (.sl 6 65 (s17.2.2.2.2.2).length)]], 0, 0x0064⟩), (65, some ⟨6, (List.map Q8 s17.2.2.2.2.2), 0, 0x0064⟩)]) .z (fun _ => .pF 3 .z))))
end Go.Proofs.YtbdkbdafhlcilaaGreat
set_option linter.unusedSimpArgs false
set_option linter.unusedVariables false
namespace Go.Proofs.YtbdkbdafhlcilaaGreat
open Go Go.RowKit
set_option maxRecDepth 100000
set_option maxHeartbeats 20000000
instance W70 : ∀ (n : Nat) (p0 : Z7) (p1 : (List Q3)) (p2 : Q5) (p3 : Int), Ct (Q20 n p0 p1 p2 p3) fun res => J8 Tryz.prog 0o00232 [⟨2, [(Y0 p0)], 0, 0x009a⟩] [.ptr 2 0 0 0, (.slice 2 (List.map X9 p1)), (.agg (X7 p2)), (eI p3)] (fun H d => H = [some ⟨2, [(Y0 res.2)], 0, 0x009a⟩] ∧ d = (.agg (Q8 res.1))) :=
 ar (au Tryz.func154 Q20.eq_2 (.o (.o (.o (.o (.o (.o (.i .z (.o (.i .z (.o (.i (.g [0, 1, 3, 6, 8] [0, 1, 9] [] [] (.o (.o (.d [0, 1, 2, 3, 4, 6, 7, 8, 9, 10, 5, 11, 12, 13, 14] [1] [] (.pF 19 .z))))) (.i .z (.o (.i .z (.o (.b fun (x37 : Int) => .o (.pC 241 5 6 0x0064 (.ls 74 (.f [8, 11] [0, 9, 241, 313] [0, 1, 3, 8, 11, 12, 13] [0, 9, 241, 313] (fun (k96 : Nat) (s92 : Z7 × (List Q0)) => [(13, eI (k96 : Int))]) (fun k96 s92 => [(0, some ⟨2, [(Y0 s92.1)], 0, 0x009a⟩), (1000000241, some ⟨6, [[(eI 4), (eI x37), (eI 0), (eI 0), (eI 0), (.sl 6 313 (s92.2).length)]], 0, 0x0064⟩), (313, some ⟨6, (List.map Q8 s92.2), 0, 0x0064⟩)]) (fun k96 s92 => .o (.g [0, 1, 3, 8, 11, 12, 13] [0, 1, 2, 3] [] [(1000000002, some ⟨6, [[(eI 4), (eI x37), (eI 0), (eI 0), (eI 0), (.sl 6 3 (s92.2).length)]], 0, 0x0064⟩)] (.o (.o (.d [0, 1, 2, 3, 4, 5, 6, 7, 8, 9, 10, 11, 12, 13, 14] [2] [94] .z))))) (fun s100 => .pF 3 .z)))))))))))))))))))))
end Go.Proofs.YtbdkbdafhlcilaaGreat
