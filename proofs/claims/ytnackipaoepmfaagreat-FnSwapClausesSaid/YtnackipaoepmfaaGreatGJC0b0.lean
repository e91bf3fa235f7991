import Derived.Test.YtnackipaoepmfaaGreatGJMir
import Derived.Test.YtnackipaoepmfaaGreatGJAuto
import Derived.Test.YtnackipaoepmfaaGreatGJAuI
set_option linter.unusedSimpArgs false
set_option linter.unusedVariables false
set_option linter.unusedSimpArgs false
set_option linter.unusedVariables false
namespace Go.Proofs.YtnackipaoepmfaaGreat
open Go Go.RowKit
set_option maxRecDepth 100000
set_option maxHeartbeats 20000000
instance W61 : ∀ (p0 : Q6j) (p1 : Int), Ct (Q8u p0 p1) fun res => Q9 Tryz.prog 0o00365 [(.agg (Q5r p0)), (eI p1)] (fun d => d = (eB res)) :=
 au Tryz.func245 Q8u.eq_1 .z
end Go.Proofs.YtnackipaoepmfaaGreat
set_option linter.unusedSimpArgs false
set_option linter.unusedVariables false
namespace Go.Proofs.YtnackipaoepmfaaGreat
open Go Go.RowKit
set_option maxRecDepth 100000
set_option maxHeartbeats 20000000
instance W62 : ∀ (p0 : (List ByteArray)) (p1 : ByteArray), Ct (Q8v p0 p1) fun res => Q9 Tryz.prog 0o00572 [(.slice 1 (List.map rS p0)), (eS p1)] (fun d => d = (eI res)) :=
 au Tryz.func378 Q8v.eq_1 (.o (.o (.i .z (.ls 0 (.f [] [] [0, 1, 5] [] (fun (k46 : Nat) (s42 : Unit) => [(5, eI (k46 : Int))]) (fun k46 s42 => []) (fun k46 s42 => .z) (fun s50 => .z))))))
end Go.Proofs.YtnackipaoepmfaaGreat
set_option linter.unusedSimpArgs false
set_option linter.unusedVariables false
namespace Go.Proofs.YtnackipaoepmfaaGreat
open Go Go.RowKit
set_option maxRecDepth 100000
set_option maxHeartbeats 20000000
instance X08 : ∀ (p0 : (List Q7)) (p1 : Q7), Ct (Q2h p0 p1) fun res => Q9 Tryz.prog 0o00523 [(.slice 3 (List.map W8 p0)), (.agg (W8 p1))] (fun d => d = (eI res)) :=
 au Tryz.func339 Q2h.eq_1 (.o (.o (.ls 0 (.f [] [] [0, 3, 7, 8] [0] (fun (k44 : Nat) (s40 : Unit) => [(8, eI (k44 : Int))]) (fun k44 s40 => []) (fun k44 s40 => .o (.g [0, 3, 5, 7, 8] [0] [] [] (.d [0, 1, 2, 3, 4, 5] [0] [] .z))) (fun s48 => .z)))))
end Go.Proofs.YtnackipaoepmfaaGreat
set_option linter.unusedSimpArgs false
set_option linter.unusedVariables false
namespace Go.Proofs.YtnackipaoepmfaaGreat
open Go Go.RowKit
set_option maxRecDepth 100000
set_option maxHeartbeats 20000000
instance W9x : ∀ (p0 : Q0) (p1 : Bool) (p2 : Bool) (p3 : Bool) (p4 : Int), Ct (Q3b p0 p1 p2 p3 p4) fun res => Q9 Tryz.prog 0o00554 [(.agg (Q1 p0)), (eB p1), (eB p2), (eB p3), (eI p4)] (fun d => d = (eB res)) :=
 au Tryz.func364 Q3b.eq_1 .z
end Go.Proofs.YtnackipaoepmfaaGreat
set_option linter.unusedSimpArgs false
set_option linter.unusedVariables false
namespace Go.Proofs.YtnackipaoepmfaaGreat
open Go Go.RowKit
set_option maxRecDepth 100000
set_option maxHeartbeats 20000000
instance X6f : ∀ (p0 : (List Int)) (p1 : Int), Ct (Q4b p0 p1) fun res => Q9 Tryz.prog 0o00321 [(.slice 1 (List.map rI p0)), (eI p1)] (fun d => d = (eI res)) :=
 au Tryz.func209 Q4b.eq_1 (.o (.o (.ls 0 (.f [] [] [0, 1, 7, 8] [] (fun (k44 : Nat) (s40 : Unit) => [(8, eI (k44 : Int))]) (fun k44 s40 => []) (fun k44 s40 => .z) (fun s48 => .z)))))
end Go.Proofs.YtnackipaoepmfaaGreat
set_option linter.unusedSimpArgs false
set_option linter.unusedVariables false
namespace Go.Proofs.YtnackipaoepmfaaGreat
open Go Go.RowKit
set_option maxRecDepth 100000
set_option maxHeartbeats 20000000
instance X9t : ∀ (p0 : (List Int)) (p1 : Q2), Ct (Q10 p0 p1) fun res => Q9 Tryz.prog 0o00415 [.cptr (List.map cI p0), (.agg (Z6 p1))] (fun d => d = (eI res)) :=
 au Tryz.func269 Q10.eq_1 (.o (.o (.i .z (.g [0, 3] [0] [] [] (.o (.d [0, 1, 2, 3, 4, 5, 6, 7, 8, 9] [0] [] .z))))))
end Go.Proofs.YtnackipaoepmfaaGreat
set_option linter.unusedSimpArgs false
set_option linter.unusedVariables false
namespace Go.Proofs.YtnackipaoepmfaaGreat
open Go Go.RowKit
set_option maxRecDepth 100000
set_option maxHeartbeats 20000000
theorem Q9c (p0 : (List Q0)) (res : (List Q0)) (h : Y0 p0 = some res) : Q0k Tryz.prog 0o00334 [] [(.slice 6 (List.map Q1 p0))] (fun H d => H = [some ⟨6, List.map Q1 res, 0, 0x0033⟩] ∧ d = .sl 6 0 res.length) := by
 unfold Y0 at h
 refine CH Tryz.func220 [.tmp 2] 0 fun β hβ => ?_
 refine sZ ?_
 apply sq
 refine sk fun K hK => ?_
 simp
 refine ⟨?_, fun hnil => ?_⟩
 ·apply hK
  refine cF ?_
  apply TrD.skip
  apply sq
  obtain ⟨x3, hx3, h⟩ := bindE h
  have hx3_r := (Z0l hx3).2
  try simp only [List.length_nil, Nat.zero_add] at hx3_r
  obtain hhx3 := X5b hx3
  subst hhx3
  refine rZ ?_ fun K hK => by simp [hx3_r]; exact hK
  cases h
  apply TrD.ret
  refine X7d (σ' := ⟨(updD (fun _ => .any) 2 (.sl 6 0 (p0).length)), hOfO [some ⟨6, (List.map Q1 p0), 0, 0x0033⟩], 1, 8⟩) ?_ ?_
  ·exact gC [40]
  dsimp only [resD]
  exact eA
 replace h : some ([]) = some res := by simp only [hnil] at h; simpa [app] using h
 apply hK
 refine cT ?_
 refine sZ ?_
 cases h
 apply TrD.ret
 refine X7d (σ' := ⟨(updD (fun _ => .any) 2 (.sl 6 0 0)), hOfO [some ⟨6, (List.map Q1 []), 0, 0x0033⟩], 1, 8⟩) ?_ ?_
 ·refine (Y7.ownNil (s := 2) (by simp) 6 0x0033).trans ?_
  exact gC [32]
 dsimp only [resD]
 exact eA
instance X09 : ∀ (p0 : (List Q0)), Ct (Y0 p0) fun res => Q0k Tryz.prog 0o00334 [] [(.slice 6 (List.map Q1 p0))] (fun H d => H = [some ⟨6, List.map Q1 res, 0, 0x0033⟩] ∧ d = .sl 6 0 res.length) := fun p0 => ⟨Q9c p0⟩
end Go.Proofs.YtnackipaoepmfaaGreat
set_option linter.unusedSimpArgs false
set_option linter.unusedVariables false
namespace Go.Proofs.YtnackipaoepmfaaGreat
open Go Go.RowKit
set_option maxRecDepth 100000
set_option maxHeartbeats 20000000
instance W6c : ∀ (n : Nat) (p0 : (List Int)), Ct (Q21 n p0) fun res => Q9 Tryz.prog 0o00411 [(.slice 1 (List.map rI p0))] (fun d => d = (.slice 6 (List.map Q1 res))) :=
 au Tryz.func265 Q21.eq_1 (.o (.o (.pN 3 6 0x0033 (.w [3] [24] [0, 3, 4] [24] (fun (s81 : (List Q0) × Int) => [(3, .sl 6 24 (s81.1).length), (4, eI s81.2)]) (fun s81 => [(24, some ⟨6, (List.map Q1 s81.1), 0, 0x0033⟩)]) (fun s81 => .i (.j 5 0 [0, 3, 4] [0] (fun (s96 : (List Q0)) => [(3, .sl 6 0 (s96).length)]) (fun s96 => [(0, some ⟨6, (List.map Q1 s96), 0, 0x0033⟩)]) (.g [0, 3, 4] [0] [] [] (.o (.o (.d [0, 1, 2, 3, 4, 5, 6, 7, 8, 9] [] [] (.i (.g [0, 3, 4] [0] [] [] (.o (.d [0, 1, 2, 3, 4, 5, 6, 7, 8, 9, 10, 11, 12, 13] [] [] .z))) .z))))) (fun _ => .z)) .z) (fun s89 => .z)))))
end Go.Proofs.YtnackipaoepmfaaGreat
set_option linter.unusedSimpArgs false
set_option linter.unusedVariables false
namespace Go.Proofs.YtnackipaoepmfaaGreat
open Go Go.RowKit
set_option maxRecDepth 100000
set_option maxHeartbeats 20000000
instance W5v : ∀ (n : Nat) (p0 : Q0), Ct (Q20 n p0) fun res => Q9 Tryz.prog 0o00161 [(.agg (Q1 p0))] (fun d => d = (.agg (Q1 res))) :=
 ar (au Tryz.func113 Q20.eq_2 (.o (.o (.b fun (p0 : Q0) => .pC 24 5 6 0x0033 (.lc 0 5 6 Q1 p0.kids (.f [2, 3] [8, 24, 64] [1, 2, 3, 4] [0, 8, 24, 64] (fun (k56 : Nat) (s52 : (List Q0)) => [(4, eI (k56 : Int))]) (fun k56 s52 => [(1000000024, some ⟨6, [[(eI p0.op), (eI p0.ctor), (eI p0.n), (eI p0.m), (eI p0.var), (.sl 6 64 (s52).length)]], 0, 0x0033⟩), (64, some ⟨6, (List.map Q1 s52), 0, 0x0033⟩)]) (fun k56 s52 => .o (.g [1, 2, 3, 4] [0, 1, 2, 3] [] [(1000000002, some ⟨6, [[(eI p0.op), (eI p0.ctor), (eI p0.n), (eI p0.m), (eI p0.var), (.sl 6 3 (s52).length)]], 0, 0x0033⟩)] (.o (.o (.d [0, 1, 2, 3, 4, 5, 6, 7, 8, 9, 10, 11] [0, 2] [24] .z))))) (fun s60 => .z)))))))
end Go.Proofs.YtnackipaoepmfaaGreat
set_option linter.unusedSimpArgs false
set_option linter.unusedVariables false
namespace Go.Proofs.YtnackipaoepmfaaGreat
open Go Go.RowKit
set_option maxRecDepth 100000
set_option maxHeartbeats 20000000
theorem Z0u (p0 : (List Q4)) (res : (List Q4)) (h : Q0u p0 = some res) : Q0k Tryz.prog 0o00261 [] [(.slice 3 (List.map V0 p0))] (fun H d => H = [some ⟨3, List.map V0 res, 0, 0x002f⟩] ∧ d = .sl 3 0 res.length) := by
 unfold Q0u at h
 refine CH Tryz.func177 [.tmp 2] 0 fun β hβ => ?_
 refine sZ ?_
 apply sq
 refine sk fun K hK => ?_
 simp
 refine ⟨?_, fun hnil => ?_⟩
 ·apply hK
  refine cF ?_
  apply TrD.skip
  apply sq
  obtain ⟨x3, hx3, h⟩ := bindE h
  have hx3_r := (Z0l hx3).2
  try simp only [List.length_nil, Nat.zero_add] at hx3_r
  obtain hhx3 := X5b hx3
  subst hhx3
  refine rZ ?_ fun K hK => by simp [hx3_r]; exact hK
  cases h
  apply TrD.ret
  refine X7d (σ' := ⟨(updD (fun _ => .any) 2 (.sl 3 0 (p0).length)), hOfO [some ⟨3, (List.map V0 p0), 0, 0x002f⟩], 1, 8⟩) ?_ ?_
  ·exact gC [40]
  dsimp only [resD]
  exact eA
 replace h : some ([]) = some res := by simp only [hnil] at h; simpa [app] using h
 apply hK
 refine cT ?_
 refine sZ ?_
 cases h
 apply TrD.ret
 refine X7d (σ' := ⟨(updD (fun _ => .any) 2 (.sl 3 0 0)), hOfO [some ⟨3, (List.map V0 []), 0, 0x002f⟩], 1, 8⟩) ?_ ?_
 ·refine (Y7.ownNil (s := 2) (by simp) 3 0x002f).trans ?_
  exact gC [32]
 dsimp only [resD]
 exact eA
instance X30 : ∀ (p0 : (List Q4)), Ct (Q0u p0) fun res => Q0k Tryz.prog 0o00261 [] [(.slice 3 (List.map V0 p0))] (fun H d => H = [some ⟨3, List.map V0 res, 0, 0x002f⟩] ∧ d = .sl 3 0 res.length) := fun p0 => ⟨Z0u p0⟩
end Go.Proofs.YtnackipaoepmfaaGreat
set_option linter.unusedSimpArgs false
set_option linter.unusedVariables false
namespace Go.Proofs.YtnackipaoepmfaaGreat
open Go Go.RowKit
set_option maxRecDepth 100000
set_option maxHeartbeats 20000000
instance Z1l : ∀ (n : Nat) (p0 : (List W4)) (p1 : Int) (p2 : Int) (p3 : (W4 → W4 → Option Int)) {p3_f : FuncId} {p3_c : List D} [p3_i : CF2 (fun a0 => (.agg (Q1h a0))) (fun a1 => (.agg (Q1h a1))) (fun r => (eI r)) p3 p3_f p3_c], Ct (Y1 n p0 p1 p2 p3) fun res => Q0k Tryz.prog 0o00524 [⟨4, List.map Q1h p0, 0, 0x007e⟩] [.sl 4 0 p0.length, (eI p1), (eI p2), .clos p3_f p3_c] (fun H d => H = [some ⟨4, List.map Q1h res, 0, 0x007e⟩] ∧ d = .tup []) :=
 au Tryz.func340 Y1.eq_1 (.o (.o (.o (.o (.o (.o (.o (.o (.w [] [0] [0, 1, 2, 3, 8] [0] (fun (s464 : (List W4) × Int) => [(0, .sl 4 0 (s464.1).length), (8, eI s464.2)]) (fun s464 => [(0, some ⟨4, (List.map Q1h s464.1), 0, 0x007e⟩)]) (fun s464 => .i (.w [0, 1, 2, 3, 8] [0] [0, 1, 2, 3, 8, 9] [0] (fun (s660 : (List W4) × Int) => [(0, .sl 4 0 (s660.1).length), (9, eI s660.2)]) (fun s660 => [(0, some ⟨4, (List.map Q1h s660.1), 0, 0x007e⟩)]) (fun s660 => .g [0, 1, 2, 3, 8, 9] [0] [] [] (.i (.o (.o (.o (.d [0, 1, 2, 3, 4, 5, 6, 7, 8, 9, 10, 11, 12, 13, 14, 15, 16] [0] [] (.i (.g [0, 1, 2, 3, 8, 9] [0] [] [] (.o (.o (.o (.d [0, 1, 2, 3, 4, 5, 6, 7, 8, 9, 10, 11, 12, 13, 14, 15, 16, 17] [0] [51, 52] .z))))) .z))))) (.d [0, 1, 2, 3, 4, 5, 6, 7, 8, 9, 10, 11, 12, 13, 14, 15, 16] [] [] .z))) (fun s668 => .z)) .z) (fun s472 => .z))))))))))
end Go.Proofs.YtnackipaoepmfaaGreat
set_option linter.unusedSimpArgs false
set_option linter.unusedVariables false
namespace Go.Proofs.YtnackipaoepmfaaGreat
open Go Go.RowKit
set_option maxRecDepth 100000
set_option maxHeartbeats 20000000
instance Z8k : ∀ (p0 : (List Q4)) (p1 : (List Q4)) (p2 : (Q4 → Q4 → Option Bool)) {p2_f : FuncId} {p2_c : List D} [p2_i : CF2 (fun a0 => (.agg (V0 a0))) (fun a1 => (.agg (V0 a1))) (fun r => (eB r)) p2 p2_f p2_c], Ct (Q05 p0 p1 p2) fun res => Q9 Tryz.prog 0o00272 [(.slice 3 (List.map V0 p0)), (.slice 3 (List.map V0 p1)), .clos p2_f p2_c] (fun d => d = (eB res)) :=
 au Tryz.func186 Q05.eq_1 (.o (.o (.o (.o (.o (.o (.i .z (.ls 0 (.f [] [] [1, 2, 15, 16, 17] [] (fun (k66 : Nat) (s62 : Unit) => [(17, eI (k66 : Int))]) (fun k66 s62 => []) (fun k66 s62 => .z) (fun s70 => .z))))))))))
end Go.Proofs.YtnackipaoepmfaaGreat
