import Derived.Test.YtnackipaoepmfaaGreatDJMir
import Derived.Test.YtnackipaoepmfaaGreatDJAuI
import Derived.Test.YtnackipaoepmfaaGreatDJAuto
set_option linter.unusedSimpArgs false
set_option linter.unusedVariables false
set_option linter.unusedSimpArgs false
set_option linter.unusedVariables false
namespace Go.Proofs.YtnackipaoepmfaaGreat
open Go Go.RowKit
set_option maxRecDepth 100000
set_option maxHeartbeats 20000000
theorem Z0o (p0 : (List Q6)) (res : (List Q6)) (h : Q0y p0 = some res) : Q1d Tryz.prog 0o00261 [] [(.slice 3 (List.map X3 p0))] (fun H d => H = [some ⟨3, List.map X3 res, 0, 0x002f⟩] ∧ d = .sl 3 0 res.length) := by
 unfold Q0y at h
 refine CH Tryz.func177 [.tmp 2] 0 fun β hβ => ?_
 refine sZ ?_
 apply sq
 refine sk fun K hK => ?_
 simp
 refine ⟨?_, fun hnil => ?_⟩
 ·apply hK
  refine cF ?_
  apply TrD.skip
  apply sq
  obtain ⟨x3, hx3, h⟩ := bindE h
  have hx3_r := (Z0h hx3).2
  try simp only [List.length_nil, Nat.zero_add] at hx3_r
  obtain hhx3 := X4m hx3
  subst hhx3
  refine rZ ?_ fun K hK => by simp [hx3_r]; exact hK
  cases h
  apply TrD.ret
  refine X6l (σ' := ⟨(updD (fun _ => .any) 2 (.sl 3 0 (p0).length)), hOfO [some ⟨3, (List.map X3 p0), 0, 0x002f⟩], 1, 8⟩) ?_ ?_
  ·exact gC [40]
  dsimp only [resD]
  exact eA
 replace h : some ([]) = some res := by simp only [hnil] at h; simpa [app] using h
 apply hK
 refine cT ?_
 refine sZ ?_
 cases h
 apply TrD.ret
 refine X6l (σ' := ⟨(updD (fun _ => .any) 2 (.sl 3 0 0)), hOfO [some ⟨3, (List.map X3 []), 0, 0x002f⟩], 1, 8⟩) ?_ ?_
 ·refine (W2.ownNil (s := 2) (by simp) 3 0x002f).trans ?_
  exact gC [32]
 dsimp only [resD]
 exact eA
instance X2c : ∀ (p0 : (List Q6)), Ct (Q0y p0) fun res => Q1d Tryz.prog 0o00261 [] [(.slice 3 (List.map X3 p0))] (fun H d => H = [some ⟨3, List.map X3 res, 0, 0x002f⟩] ∧ d = .sl 3 0 res.length) := fun p0 => ⟨Z0o p0⟩
end Go.Proofs.YtnackipaoepmfaaGreat
set_option linter.unusedSimpArgs false
set_option linter.unusedVariables false
namespace Go.Proofs.YtnackipaoepmfaaGreat
open Go Go.RowKit
set_option maxRecDepth 100000
set_option maxHeartbeats 20000000
instance X7m : ∀ (p0 : Int), Ct (Q5y p0) fun res => Q9 Tryz.prog 0o00535 [(.val (.int .u64 p0))] (fun d => d = (eI res)) :=
 au Tryz.func349 Q5y.eq_1 (.o (.j 1 0 [0, 2] [] (fun (s2 : Int × Int) => [(0, .val (.int .u64 s2.1)), (2, eI s2.2)]) (fun _ => []) .z (fun s2 => .j 4 0 [0, 2] [] (fun (s7 : Int × Int) => [(0, .val (.int .u64 s7.1)), (2, eI s7.2)]) (fun _ => []) .z (fun s7 => .j 7 0 [0, 2] [] (fun (s12 : Int × Int) => [(0, .val (.int .u64 s12.1)), (2, eI s12.2)]) (fun _ => []) .z (fun _ => .z)))))
end Go.Proofs.YtnackipaoepmfaaGreat
set_option linter.unusedSimpArgs false
set_option linter.unusedVariables false
namespace Go.Proofs.YtnackipaoepmfaaGreat
open Go Go.RowKit
set_option maxRecDepth 100000
set_option maxHeartbeats 20000000
instance W1b : ∀ (p0 : Int), Ct (Q47 p0) fun res => Q9 Tryz.prog 0o00465 [(eI p0)] (fun d => d = (eB res)) :=
 au Tryz.func309 Q47.eq_1 .z
end Go.Proofs.YtnackipaoepmfaaGreat
set_option linter.unusedSimpArgs false
set_option linter.unusedVariables false
namespace Go.Proofs.YtnackipaoepmfaaGreat
open Go Go.RowKit
set_option maxRecDepth 100000
set_option maxHeartbeats 20000000
instance Z8y : ∀ (p0 : (List W6)) (p1 : (W6 → Option Bool)) {p1_f : FuncId} {p1_c : List D} [p1_i : CF1 (fun a0 => (.agg (Q0q a0))) (fun r => (eB r)) p1 p1_f p1_c], Ct (Q3i p0 p1) fun res => Q9 Tryz.prog 0o00376 [(.slice 4 (List.map Q0q p0)), .clos p1_f p1_c] (fun d => d = (eI res)) :=
 au Tryz.func254 Q3i.eq_1 (.o (.o (.o (.o (.o (.ls 0 (.f [] [] [0, 1, 7, 8] [] (fun (k54 : Nat) (s50 : Unit) => [(8, eI (k54 : Int))]) (fun k54 s50 => []) (fun k54 s50 => .z) (fun s58 => .z))))))))
end Go.Proofs.YtnackipaoepmfaaGreat
set_option linter.unusedSimpArgs false
set_option linter.unusedVariables false
namespace Go.Proofs.YtnackipaoepmfaaGreat
open Go Go.RowKit
set_option maxRecDepth 100000
set_option maxHeartbeats 20000000
instance W11 : ∀ (p0 : Q6b) (p1 : Int), Ct (Q76 p0 p1) fun res => Q9 Tryz.prog 0o00367 [(.agg (Q5f p0)), (eI p1)] (fun d => d = (eI res)) :=
 au Tryz.func247 Q76.eq_1 .z
end Go.Proofs.YtnackipaoepmfaaGreat
set_option linter.unusedSimpArgs false
set_option linter.unusedVariables false
namespace Go.Proofs.YtnackipaoepmfaaGreat
open Go Go.RowKit
set_option maxRecDepth 100000
set_option maxHeartbeats 20000000
instance W4x : ∀ (n : Nat) (p0 : ByteArray) (p1 : Int), Ct (Q2q n p0 p1) fun res => Q9 Tryz.prog 0o00517 [(eS p0), (.val (.int .u8 p1))] (fun d => d = (.slice 1 (List.map rS res))) :=
 au Tryz.func335 Q2q.eq_1 (.o (.o (.o (.w [5] [8] [0, 1, 5, 6, 7] [8] (fun (s203 : (List ByteArray) × Int × Int) => [(5, .sl 1 8 (s203.1).length), (6, eI s203.2.1), (7, eI s203.2.2)]) (fun s203 => [(8, some ⟨1, (List.map rS s203.1), 0, 0x0009⟩)]) (fun s203 => .i (.j 6 0 [0, 1, 5, 6, 7] [0] (fun (s230 : (List ByteArray) × Int) => [(5, .sl 1 0 (s230.1).length), (6, eI s230.2)]) (fun s230 => [(0, some ⟨1, (List.map rS s230.1), 0, 0x0009⟩)]) .z (fun _ => .z)) .z) (fun s211 => .z)))))
end Go.Proofs.YtnackipaoepmfaaGreat
set_option linter.unusedSimpArgs false
set_option linter.unusedVariables false
namespace Go.Proofs.YtnackipaoepmfaaGreat
open Go Go.RowKit
set_option maxRecDepth 100000
set_option maxHeartbeats 20000000
instance W6y : ∀ (p0 : Int) (p1 : Q2), Ct (Q7n p0 p1) fun res => Q9 Tryz.prog 0o00471 [(eI p0), (.agg (Z2 p1))] (fun d => d = (eB res)) :=
 au Tryz.func313 Q7n.eq_1 .z
end Go.Proofs.YtnackipaoepmfaaGreat
set_option linter.unusedSimpArgs false
set_option linter.unusedVariables false
namespace Go.Proofs.YtnackipaoepmfaaGreat
open Go Go.RowKit
set_option maxRecDepth 100000
set_option maxHeartbeats 20000000
instance W4w : ∀ (n : Nat) (p0 : Int), Ct (Q5m n p0) fun res => Q9 Tryz.prog 0o00574 [(eI p0)] (fun d => d = (eS res)) :=
 ar (au Tryz.func380 Q5m.eq_2 (.o (.o (.o (.i .z (.i .z (.w [0, 3] [] [0, 3] [] (fun (s18 : Int × ByteArray) => [(0, eI s18.1), (3, eS s18.2)]) (fun s18 => []) (fun s18 => .z) (fun s26 => .z))))))))
end Go.Proofs.YtnackipaoepmfaaGreat
set_option linter.unusedSimpArgs false
set_option linter.unusedVariables false
namespace Go.Proofs.YtnackipaoepmfaaGreat
open Go Go.RowKit
set_option maxRecDepth 100000
set_option maxHeartbeats 20000000
instance W31 : ∀ (p0 : (List Int)), Ct (Q4t p0) fun res => Q1d Tryz.prog 0o00103 [] [(.slice 1 (List.map (rK .u8) p0))] (fun H d => H = [some ⟨2, [(Q08 res)], 0, 0x00c4⟩] ∧ d = .ptr 2 0 0 0) :=
 au Tryz.func67 Q4t.eq_1 (.o (.j 1 0 [0] [] (fun (s3 : (List Int)) => [(0, .slice 1 (List.map (rK .u8) s3))]) (fun _ => []) .z (fun _ => .z)))
end Go.Proofs.YtnackipaoepmfaaGreat
set_option linter.unusedSimpArgs false
set_option linter.unusedVariables false
namespace Go.Proofs.YtnackipaoepmfaaGreat
open Go Go.RowKit
set_option maxRecDepth 100000
set_option maxHeartbeats 20000000
instance X7p : ∀ (n : Nat) (p0 : Q0), Ct (Q0l n p0) fun res => Q9 Tryz.prog 0o00306 [(.agg (Q1 p0))] (fun d => d = (eI res)) :=
 ar (au Tryz.func198 Q0l.eq_2 (.o (.o (.o (.j 2 0 [1, 3] [0] (fun (s2 : Int) => [(3, eI s2)]) (fun _ => []) .z (fun s2 => .ls 10 (.f [3] [] [1, 3, 10, 11, 12] [0] (fun (k86 : Nat) (s82 : Int) => [(3, eI s82), (12, eI (k86 : Int))]) (fun k86 s82 => []) (fun k86 s82 => .o (.j 6 0 [1, 3, 10, 11, 12] [0] (fun (s94 : Int) => [(3, eI s94)]) (fun _ => []) .z (fun _ => .z))) (fun s90 => .z))))))))
end Go.Proofs.YtnackipaoepmfaaGreat
set_option linter.unusedSimpArgs false
set_option linter.unusedVariables false
namespace Go.Proofs.YtnackipaoepmfaaGreat
open Go Go.RowKit
set_option maxRecDepth 100000
set_option maxHeartbeats 20000000
instance W4c : ∀ (n : Nat) (p0 : Q0) (p1 : Q0), Ct (Q00 n p0 p1) fun res => Q9 Tryz.prog 0o00267 [(.agg (Q1 p0)), (.agg (Q1 p1))] (fun d => d = .tup [(.agg (Q1 res.1)), (eB res.2)]) :=
 ar (au Tryz.func183 Q00.eq_2 (.o (.o (.b fun (p0 : Q0) => .o (.i .z (.i .z (.i (.j 8 0 [3, 4, 6, 7] [8, 16] (fun (s19 : Int) => [(6, eI s19)]) (fun _ => []) .z (fun s19 => .j 10 0 [4, 6, 7] [1] (fun (s24 : Int) => [(7, eI s24)]) (fun _ => []) .z (fun _ => .z))) (.i .z (.pC 200 5 6 0x0033 (.lc 0 5 6 Q1 p0.kids (.f [4, 8] [16, 200, 224] [2, 3, 4, 8, 9] [0, 8, 16, 200, 224] (fun (k114 : Nat) (s110 : (List Q0)) => [(9, eI (k114 : Int))]) (fun k114 s110 => [(1000000200, some ⟨6, [[(eI 4), (eI p0.ctor), (eI 0), (eI 0), (eI 0), (.sl 6 224 (s110).length)]], 0, 0x0033⟩), (224, some ⟨6, (List.map Q1 s110), 0, 0x0033⟩)]) (fun k114 s110 => .o (.g [2, 3, 4, 8, 9] [0, 1, 2, 3, 4] [] [(1000000003, some ⟨6, [[(eI 4), (eI p0.ctor), (eI 0), (eI 0), (eI 0), (.sl 6 4 (s110).length)]], 0, 0x0033⟩)] (.o (.o (.dz [0, 1, 2, 3, 4, 5, 6, 7, 8, 9, 10, 11, 12, 13, 14, 15, 16] [0, 1] [1048586] [] .z))))) (fun s118 => .z))))))))))))
end Go.Proofs.YtnackipaoepmfaaGreat
set_option linter.unusedSimpArgs false
set_option linter.unusedVariables false
namespace Go.Proofs.YtnackipaoepmfaaGreat
open Go Go.RowKit
set_option maxRecDepth 100000
set_option maxHeartbeats 20000000
instance W0x : ∀ (p0 : Q0) (p1 : Q0), Ct (Q36 p0 p1) fun res => Q9 Tryz.prog 0o00541 [(.agg (Q1 p0)), (.agg (Q1 p1))] (fun d => d = (.slice 6 (List.map Q1 res))) :=
 au Tryz.func353 Q36.eq_1 (.b fun (p0 : Q0) => .o (.j 3 0 [2, 3, 5, 6] [0, 8, 24, 80] (fun (s2 : Int) => []) (fun s2 => [(80, some ⟨6, [[(eI 3), (eI 0), (eI p0.n), (eI s2), (eI 0), .nil]], 0, 0x0033⟩)]) .z (fun s2 => .j 5 0 [2, 3, 5] [0, 1, 2] (fun (s8 : (List Q0)) => [(5, .sl 6 2 (s8).length)]) (fun s8 => [(2, some ⟨6, (List.map Q1 s8), 0, 0x0033⟩)]) .z (fun s8 => .j 8 0 [5, 7] [2, 43] (fun (s14 : Int) => []) (fun s14 => [(43, some ⟨6, [[(eI 3), (eI 0), (eI s14), (eI p0.m), (eI 0), .nil]], 0, 0x0033⟩)]) .z (fun s14 => .j 10 0 [5] [0] (fun (s20 : (List Q0)) => [(5, .sl 6 0 (s20).length)]) (fun s20 => [(0, some ⟨6, (List.map Q1 s20), 0, 0x0033⟩)]) .z (fun _ => .z))))))
end Go.Proofs.YtnackipaoepmfaaGreat
