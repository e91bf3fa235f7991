import Derived.Test.YtnackipaoepmfaaGreatDJMir
import Derived.Test.YtnackipaoepmfaaGreatDJAuto
import Derived.Test.YtnackipaoepmfaaGreatDJAuI
set_option linter.unusedSimpArgs false
set_option linter.unusedVariables false
set_option linter.unusedSimpArgs false
set_option linter.unusedVariables false
namespace Go.Proofs.YtnackipaoepmfaaGreat
open Go Go.RowKit
set_option maxRecDepth 100000
set_option maxHeartbeats 20000000
instance W15 : ∀ (n : Nat) (p0 : Q6), Ct (Q1j n p0) fun res => Q9 Tryz.prog 0o00126 [(.agg (X3 p0))] (fun d => d = (.agg (X3 res))) :=
 ar (au Tryz.func86 Q1j.eq_2 (.o (.o (.b fun (p0 : Q6) => .pC 56 2 3 0x002f (.ls 12 (.f [2, 3] [8, 56, 104] [2, 3, 12, 13, 14] [8, 56, 104] (fun (k56 : Nat) (s52 : (List Q6)) => [(14, eI (k56 : Int))]) (fun k56 s52 => [(1000000056, some ⟨3, [[(eI p0.ctor), (eI p0.n), (.sl 3 104 (s52).length)]], 0, 0x002f⟩), (104, some ⟨3, (List.map X3 s52), 0, 0x002f⟩)]) (fun k56 s52 => .o (.g [2, 3, 5, 12, 13, 14] [0, 1, 2, 27] [] [(1000000001, some ⟨3, [[(eI p0.ctor), (eI p0.n), (.sl 3 2 (s52).length)]], 0, 0x002f⟩)] (.o (.o (.d [0, 1, 2, 3, 4, 5, 6, 7] [1, 3] [24] .z))))) (fun s60 => .z)))))))
end Go.Proofs.YtnackipaoepmfaaGreat
set_option linter.unusedSimpArgs false
set_option linter.unusedVariables false
namespace Go.Proofs.YtnackipaoepmfaaGreat
open Go Go.RowKit
set_option maxRecDepth 100000
set_option maxHeartbeats 20000000
instance Z9q : ∀ (p0 : (List Q8)) (p1 : Q8), Ct (Q2e p0 p1) fun res => Q9 Tryz.prog 0o00523 [(.slice 3 (List.map W9 p0)), (.agg (W9 p1))] (fun d => d = (eI res)) :=
 au Tryz.func339 Q2e.eq_1 (.o (.o (.ls 0 (.f [] [] [0, 3, 7, 8] [0] (fun (k44 : Nat) (s40 : Unit) => [(8, eI (k44 : Int))]) (fun k44 s40 => []) (fun k44 s40 => .o (.g [0, 3, 5, 7, 8] [0] [] [] (.d [0, 1, 2, 3, 4, 5] [0] [] .z))) (fun s48 => .z)))))
end Go.Proofs.YtnackipaoepmfaaGreat
set_option linter.unusedSimpArgs false
set_option linter.unusedVariables false
namespace Go.Proofs.YtnackipaoepmfaaGreat
open Go Go.RowKit
set_option maxRecDepth 100000
set_option maxHeartbeats 20000000
instance X7j : ∀ (p0 : X0) (p1 : Int), Ct (X2 p0 p1) fun res => Q1d Tryz.prog 0o00105 [⟨2, [(Q08 p0)], 0, 0x00c4⟩] [.ptr 2 0 0 0, (eI p1)] (fun H d => H = [some ⟨2, [(Q08 res.2)], 0, 0x00c4⟩] ∧ d = (eI res.1)) :=
 au Tryz.func69 X2.eq_1 (.o (.o (.i .z (.i .z (.i .z (.g [0, 1, 5] [0] [] [] (.o (.o (.o (.d [0, 1, 2, 3, 4, 5, 6, 7, 8, 9, 10, 11, 12, 13, 14, 15, 16, 17, 18, 19, 20, 21, 22, 23, 24, 25, 26, 27, 28, 29, 30, 31, 32, 33, 34, 35, 36, 37, 38, 39, 40, 41, 42, 43, 44, 45] [0] [] .z))))))))))
end Go.Proofs.YtnackipaoepmfaaGreat
set_option linter.unusedSimpArgs false
set_option linter.unusedVariables false
namespace Go.Proofs.YtnackipaoepmfaaGreat
open Go Go.RowKit
set_option maxRecDepth 100000
set_option maxHeartbeats 20000000
instance W4j : ∀ (p0 : (List Q8)) (p1 : Int), Ct (Q2o p0 p1) fun res => Q9 Tryz.prog 0o00472 [(.slice 3 (List.map W9 p0)), (eI p1)] (fun d => d = (eI res)) :=
 au Tryz.func314 Q2o.eq_1 (.o (.o (.ls 0 (.f [] [] [0, 1, 5] [] (fun (k44 : Nat) (s40 : Unit) => [(5, eI (k44 : Int))]) (fun k44 s40 => []) (fun k44 s40 => .z) (fun s48 => .z)))))
end Go.Proofs.YtnackipaoepmfaaGreat
set_option linter.unusedSimpArgs false
set_option linter.unusedVariables false
namespace Go.Proofs.YtnackipaoepmfaaGreat
open Go Go.RowKit
set_option maxRecDepth 100000
set_option maxHeartbeats 20000000
instance W4s : ∀ (p0 : (List ByteArray)) (p1 : ByteArray), Ct (Q8q p0 p1) fun res => Q9 Tryz.prog 0o00572 [(.slice 1 (List.map rS p0)), (eS p1)] (fun d => d = (eI res)) :=
 au Tryz.func378 Q8q.eq_1 (.o (.o (.i .z (.ls 0 (.f [] [] [0, 1, 5] [] (fun (k46 : Nat) (s42 : Unit) => [(5, eI (k46 : Int))]) (fun k46 s42 => []) (fun k46 s42 => .z) (fun s50 => .z))))))
end Go.Proofs.YtnackipaoepmfaaGreat
set_option linter.unusedSimpArgs false
set_option linter.unusedVariables false
namespace Go.Proofs.YtnackipaoepmfaaGreat
open Go Go.RowKit
set_option maxRecDepth 100000
set_option maxHeartbeats 20000000
instance W2w : Ct (Q3t) fun res => Q9 Tryz.prog 0o00457 [] (fun d => d = (.slice 1 (List.map rS res))) :=
 au Tryz.func303 Q3t.eq_1 .z
end Go.Proofs.YtnackipaoepmfaaGreat
set_option linter.unusedSimpArgs false
set_option linter.unusedVariables false
namespace Go.Proofs.YtnackipaoepmfaaGreat
open Go Go.RowKit
set_option maxRecDepth 100000
set_option maxHeartbeats 20000000
instance X8v : ∀ (p0 : (List Int)) (p1 : Q2), Ct (Q14 p0 p1) fun res => Q9 Tryz.prog 0o00415 [.cptr (List.map cI p0), (.agg (Z2 p1))] (fun d => d = (eI res)) :=
 au Tryz.func269 Q14.eq_1 (.o (.o (.i .z (.g [0, 3] [0] [] [] (.o (.d [0, 1, 2, 3, 4, 5, 6, 7, 8, 9] [0] [] .z))))))
end Go.Proofs.YtnackipaoepmfaaGreat
set_option linter.unusedSimpArgs false
set_option linter.unusedVariables false
namespace Go.Proofs.YtnackipaoepmfaaGreat
open Go Go.RowKit
set_option maxRecDepth 100000
set_option maxHeartbeats 20000000
theorem Q97 (p0 : (List Q0)) (res : (List Q0)) (h : Y0 p0 = some res) : Q1d Tryz.prog 0o00334 [] [(.slice 6 (List.map Q1 p0))] (fun H d => H = [some ⟨6, List.map Q1 res, 0, 0x0033⟩] ∧ d = .sl 6 0 res.length) := by
 unfold Y0 at h
 refine CH Tryz.func220 [.tmp 2] 0 fun β hβ => ?_
 refine sZ ?_
 apply sq
 refine sk fun K hK => ?_
 simp
 refine ⟨?_, fun hnil => ?_⟩
 ·apply hK
  refine cF ?_
  apply TrD.skip
  apply sq
  obtain ⟨x3, hx3, h⟩ := bindE h
  have hx3_r := (Z0h hx3).2
  try simp only [List.length_nil, Nat.zero_add] at hx3_r
  obtain hhx3 := X4m hx3
  subst hhx3
  refine rZ ?_ fun K hK => by simp [hx3_r]; exact hK
  cases h
  apply TrD.ret
  refine X6l (σ' := ⟨(updD (fun _ => .any) 2 (.sl 6 0 (p0).length)), hOfO [some ⟨6, (List.map Q1 p0), 0, 0x0033⟩], 1, 8⟩) ?_ ?_
  ·exact gC [40]
  dsimp only [resD]
  exact eA
 replace h : some ([]) = some res := by simp only [hnil] at h; simpa [app] using h
 apply hK
 refine cT ?_
 refine sZ ?_
 cases h
 apply TrD.ret
 refine X6l (σ' := ⟨(updD (fun _ => .any) 2 (.sl 6 0 0)), hOfO [some ⟨6, (List.map Q1 []), 0, 0x0033⟩], 1, 8⟩) ?_ ?_
 ·refine (W2.ownNil (s := 2) (by simp) 6 0x0033).trans ?_
  exact gC [32]
 dsimp only [resD]
 exact eA
instance Z9r : ∀ (p0 : (List Q0)), Ct (Y0 p0) fun res => Q1d Tryz.prog 0o00334 [] [(.slice 6 (List.map Q1 p0))] (fun H d => H = [some ⟨6, List.map Q1 res, 0, 0x0033⟩] ∧ d = .sl 6 0 res.length) := fun p0 => ⟨Q97 p0⟩
end Go.Proofs.YtnackipaoepmfaaGreat
set_option linter.unusedSimpArgs false
set_option linter.unusedVariables false
namespace Go.Proofs.YtnackipaoepmfaaGreat
open Go Go.RowKit
set_option maxRecDepth 100000
set_option maxHeartbeats 20000000
instance X7q : Ct (Q25) fun res => Q9 Tryz.prog 0o00136 [] (fun d => d = (.agg (Q1 res))) :=
 au Tryz.func94 Q25.eq_1 .z
end Go.Proofs.YtnackipaoepmfaaGreat
set_option linter.unusedSimpArgs false
set_option linter.unusedVariables false
namespace Go.Proofs.YtnackipaoepmfaaGreat
open Go Go.RowKit
set_option maxRecDepth 100000
set_option maxHeartbeats 20000000
instance X7o : ∀ (n : Nat) (p0 : Q0), Ct (Q0k n p0) fun res => Q9 Tryz.prog 0o00273 [(.agg (Q1 p0))] (fun d => d = (.agg (Q1 res))) :=
 ar (au Tryz.func187 Q0k.eq_2 (.o (.o (.b fun (p0 : Q0) => .pC 0 5 6 0x0033 (.ls 7 (.f [1, 2] [0, 80, 8] [1, 2, 9, 10, 11] [0, 80, 8] (fun (k56 : Nat) (s52 : (List Q0)) => [(11, eI (k56 : Int))]) (fun k56 s52 => [(1000000000, some ⟨6, [[(eI p0.op), (eI p0.ctor), (eI p0.n), (eI p0.m), (eI p0.var), (.sl 6 80 (s52).length)]], 0, 0x0033⟩), (80, some ⟨6, (List.map Q1 s52), 0, 0x0033⟩)]) (fun k56 s52 => .o (.g [1, 2, 5, 9, 10, 11] [0, 1, 2, 27] [] [(1000000000, some ⟨6, [[(eI p0.op), (eI p0.ctor), (eI p0.n), (eI p0.m), (eI p0.var), (.sl 6 1 (s52).length)]], 0, 0x0033⟩)] (.o (.o (.d [0, 1, 2, 3, 4, 5, 6, 7] [0, 3] [21] .z))))) (fun s60 => .z)))))))
end Go.Proofs.YtnackipaoepmfaaGreat
set_option linter.unusedSimpArgs false
set_option linter.unusedVariables false
namespace Go.Proofs.YtnackipaoepmfaaGreat
open Go Go.RowKit
set_option maxRecDepth 100000
set_option maxHeartbeats 20000000
instance X5q : ∀ (n : Nat) (p0 : Q0), Ct (V5 n p0) fun res => Q9 Tryz.prog 0o00215 [(.agg (Q1 p0))] (fun d => d = (.agg (Q1 res))) :=
 ar (au Tryz.func141 V5.eq_2 (.o (.o (.b fun (p0 : Q0) => .j 1 0 [1, 2] [0, 8] (fun (s6 : Unit) => []) (fun _ => []) .z (fun s6 => .pC 10 5 6 0x0033 (.lc 0 5 6 Q1 p0.kids (.f [2, 3] [1, 10, 50] [1, 2, 3, 4] [0, 1, 10, 50] (fun (k69 : Nat) (s65 : (List Q0)) => [(4, eI (k69 : Int))]) (fun k69 s65 => [(1000000010, some ⟨6, [[(eI p0.op), (eI p0.ctor), (eI p0.n), (eI p0.m), (eI p0.var), (.sl 6 50 (s65).length)]], 0, 0x0033⟩), (50, some ⟨6, (List.map Q1 s65), 0, 0x0033⟩)]) (fun k69 s65 => .o (.g [1, 2, 3, 4] [0, 1, 2, 3] [] [(1000000002, some ⟨6, [[(eI p0.op), (eI p0.ctor), (eI p0.n), (eI p0.m), (eI p0.var), (.sl 6 3 (s65).length)]], 0, 0x0033⟩)] (.o (.o (.d [0, 1, 2, 3, 4, 5, 6, 7, 8, 9, 10, 11] [0, 2] [40] .z))))) (fun s73 => .z))))))))
end Go.Proofs.YtnackipaoepmfaaGreat
set_option linter.unusedSimpArgs false
set_option linter.unusedVariables false
namespace Go.Proofs.YtnackipaoepmfaaGreat
open Go Go.RowKit
set_option maxRecDepth 100000
set_option maxHeartbeats 20000000
instance Z86 : ∀ (p0 : (List Q6)) (p1 : (List Q6)) (p2 : (Q6 → Q6 → Option Bool)) {p2_f : FuncId} {p2_c : List D} [p2_i : CF2 (fun a0 => (.agg (X3 a0))) (fun a1 => (.agg (X3 a1))) (fun r => (eB r)) p2 p2_f p2_c], Ct (Q05 p0 p1 p2) fun res => Q9 Tryz.prog 0o00272 [(.slice 3 (List.map X3 p0)), (.slice 3 (List.map X3 p1)), .clos p2_f p2_c] (fun d => d = (eB res)) :=
 au Tryz.func186 Q05.eq_1 (.o (.o (.o (.o (.o (.o (.i .z (.ls 0 (.f [] [] [1, 2, 15, 16, 17] [] (fun (k66 : Nat) (s62 : Unit) => [(17, eI (k66 : Int))]) (fun k66 s62 => []) (fun k66 s62 => .z) (fun s70 => .z))))))))))
end Go.Proofs.YtnackipaoepmfaaGreat
