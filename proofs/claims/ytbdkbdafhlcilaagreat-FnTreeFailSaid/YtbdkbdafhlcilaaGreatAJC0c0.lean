import Derived.Test.YtbdkbdafhlcilaaGreatAJMir
import Derived.Test.YtbdkbdafhlcilaaGreatAJAuto
import Derived.Test.YtbdkbdafhlcilaaGreatAJAuI
set_option linter.unusedSimpArgs false
set_option linter.unusedVariables false
set_option linter.unusedSimpArgs false
set_option linter.unusedVariables false
namespace Go.Proofs.YtbdkbdafhlcilaaGreat
open Go Go.RowKit
set_option maxRecDepth 100000
set_option maxHeartbeats 20000000
instance W5p : ∀ (p0 : (List Q3)) (p1 : Q2), Ct (Q2f p0 p1) fun res => Z0 Tryz.prog 0o00252 [(.slice 2 (List.map W3 p0)), (.agg (X0 p1))] (fun d => d = (.slice 1 (List.map rI res))) :=
 au Tryz.func170 Q2f.eq_1 (.o (.o (.j 2 0 [5] [9000] (fun (s116 : (List Int)) => [(5, .sl 1 9000 (s116).length)]) (fun s116 => [(9000, some ⟨1, (List.map rI s116), 0, 0x0003⟩)]) (.i (.o (.pN 5 1 0x0003 (.ls 16 (.f [5] [112] [3, 5, 16, 17, 18] [0, 112] (fun (k198 : Nat) (s194 : (List Int)) => [(5, .sl 1 112 (s194).length), (18, eI (k198 : Int))]) (fun k198 s194 => [(112, some ⟨1, (List.map rI s194), 0, 0x0003⟩)]) (fun k198 s194 => .o (.j 5 0 [3, 5, 16, 17, 18] [0, 1] (fun (s217 : (List Int)) => [(5, .sl 1 1 (s217).length)]) (fun s217 => [(1, some ⟨1, (List.map rI s217), 0, 0x0003⟩)]) .z (fun _ => .z))) (fun s202 => .z))))) (.pN 5 1 0x0003 .z)) (fun _ => .z))))
end Go.Proofs.YtbdkbdafhlcilaaGreat
set_option linter.unusedSimpArgs false
set_option linter.unusedVariables false
namespace Go.Proofs.YtbdkbdafhlcilaaGreat
open Go Go.RowKit
set_option maxRecDepth 100000
set_option maxHeartbeats 20000000
instance Z8q : ∀ (p0 : (List Q8)) (p1 : (Q8 → Option Bool)) {p1_f : FuncId} {p1_c : List D} [p1_i : CF1 (fun a0 => (.agg (V3 a0))) (fun r => (eB r)) p1 p1_f p1_c], Ct (Q2u p0 p1) fun res => Z0 Tryz.prog 0o00473 [(.slice 3 (List.map V3 p0)), .clos p1_f p1_c] (fun d => d = (eI res)) :=
 au Tryz.func315 Q2u.eq_1 (.o (.o (.o (.o (.o (.ls 0 (.f [] [] [0, 1, 7, 8] [] (fun (k54 : Nat) (s50 : Unit) => [(8, eI (k54 : Int))]) (fun k54 s50 => []) (fun k54 s50 => .z) (fun s58 => .z))))))))
end Go.Proofs.YtbdkbdafhlcilaaGreat
set_option linter.unusedSimpArgs false
set_option linter.unusedVariables false
namespace Go.Proofs.YtbdkbdafhlcilaaGreat
open Go Go.RowKit
set_option maxRecDepth 100000
set_option maxHeartbeats 20000000
theorem Z0d (p0 : (List Q0)) (res : (List Q0)) (h : W4 p0 = some res) : J1 Tryz.prog 0o00200 [] [(.slice 6 (List.map Q1 p0))] (fun H d => H = [some ⟨6, List.map Q1 res, 0, 0x0064⟩] ∧ d = .sl 6 0 res.length) := by
 unfold W4 at h
 refine CH Tryz.func128 [.tmp 2] 0 fun β hβ => ?_
 refine sZ ?_
 apply sq
 refine sk fun K hK => ?_
 simp
 refine ⟨?_, fun hnil => ?_⟩
 ·apply hK
  refine cF ?_
  apply TrD.skip
  apply sq
  obtain ⟨x3, hx3, h⟩ := bindE h
  have hx3_r := (Q8q hx3).2
  try simp only [List.length_nil, Nat.zero_add] at hx3_r
  obtain hhx3 := Z8m hx3
  subst hhx3
  refine rZ ?_ fun K hK => by simp [hx3_r]; exact hK
  cases h
  apply TrD.ret
  refine Z5h (σ' := ⟨(updD (fun _ => .any) 2 (.sl 6 0 (p0).length)), hOfO [some ⟨6, (List.map Q1 p0), 0, 0x0064⟩], 1, 8⟩) ?_ ?_
  ·exact gC [40]
  dsimp only [resD]
  exact eA
 replace h : some ([]) = some res := by simp only [hnil] at h; simpa [app] using h
 apply hK
 refine cT ?_
 refine sZ ?_
 cases h
 apply TrD.ret
 refine Z5h (σ' := ⟨(updD (fun _ => .any) 2 (.sl 6 0 0)), hOfO [some ⟨6, (List.map Q1 []), 0, 0x0064⟩], 1, 8⟩) ?_ ?_
 ·refine (Y1.ownNil (s := 2) (by simp) 6 0x0064).trans ?_
  exact gC [32]
 dsimp only [resD]
 exact eA
instance X1s : ∀ (p0 : (List Q0)), Ct (W4 p0) fun res => J1 Tryz.prog 0o00200 [] [(.slice 6 (List.map Q1 p0))] (fun H d => H = [some ⟨6, List.map Q1 res, 0, 0x0064⟩] ∧ d = .sl 6 0 res.length) := fun p0 => ⟨Z0d p0⟩
end Go.Proofs.YtbdkbdafhlcilaaGreat
set_option linter.unusedSimpArgs false
set_option linter.unusedVariables false
namespace Go.Proofs.YtbdkbdafhlcilaaGreat
open Go Go.RowKit
set_option maxRecDepth 100000
set_option maxHeartbeats 20000000
instance X9j : ∀ (n : Nat) (p0 : Q0), Ct (Q0n n p0) fun res => Z0 Tryz.prog 0o00173 [(.agg (Q1 p0))] (fun d => d = (eI res)) :=
 ar (au Tryz.func123 Q0n.eq_2 (.o (.o (.o (.j 2 0 [1, 3] [0] (fun (s2 : Int) => [(3, eI s2)]) (fun _ => []) .z (fun s2 => .ls 10 (.f [3] [] [1, 3, 10, 11, 12] [0] (fun (k86 : Nat) (s82 : Int) => [(3, eI s82), (12, eI (k86 : Int))]) (fun k86 s82 => []) (fun k86 s82 => .o (.j 6 0 [1, 3, 10, 11, 12] [0] (fun (s94 : Int) => [(3, eI s94)]) (fun _ => []) .z (fun _ => .z))) (fun s90 => .z))))))))
end Go.Proofs.YtbdkbdafhlcilaaGreat
set_option linter.unusedSimpArgs false
set_option linter.unusedVariables false
namespace Go.Proofs.YtbdkbdafhlcilaaGreat
open Go Go.RowKit
set_option maxRecDepth 100000
set_option maxHeartbeats 20000000
instance W0x : ∀ (p0 : (List Int)) (p1 : Q2), Ct (Q12 p0 p1) fun res => Z0 Tryz.prog 0o00214 [.cptr (List.map cI p0), (.agg (X0 p1))] (fun d => d = (eI res)) :=
 au Tryz.func140 Q12.eq_1 (.o (.o (.i .z (.g [0, 3] [0] [] [] (.o (.d [0, 1, 2, 3, 4, 5, 6, 7, 8, 9] [0] [] .z))))))
end Go.Proofs.YtbdkbdafhlcilaaGreat
set_option linter.unusedSimpArgs false
set_option linter.unusedVariables false
namespace Go.Proofs.YtbdkbdafhlcilaaGreat
open Go Go.RowKit
set_option maxRecDepth 100000
set_option maxHeartbeats 20000000
instance W5n : ∀ (p0 : Q0), Ct (Q5m p0) fun res => Z0 Tryz.prog 0o00366 [(.agg (Q1 p0))] (fun d => d = .tup [(eI res.1), (eI res.2)]) :=
 au Tryz.func246 Q5m.eq_1 (.o (.i .z (.g [1] [0] [] [] (.d [0, 1, 2, 3, 4, 5] [0] [] .z))))
end Go.Proofs.YtbdkbdafhlcilaaGreat
set_option linter.unusedSimpArgs false
set_option linter.unusedVariables false
namespace Go.Proofs.YtbdkbdafhlcilaaGreat
open Go Go.RowKit
set_option maxRecDepth 100000
set_option maxHeartbeats 20000000
instance X3i : ∀ (p1 : Int), Ct (Q1x p1) fun res => J1 Tryz.prog 0o00434 [] [.nil, (eI p1)] (fun H d => H = [some ⟨6, List.map Q1 res, 0, 0x0064⟩] ∧ d = .sl 6 0 res.length) :=
 au Tryz.func284 Q1x.eq_1 (.o (.i .z (.j 3 0 [0] [9000] (fun (s6 : Unit) => [(0, .sl 6 9000 0)]) (fun _ => [(9000, some ⟨6, (List.map Q1 []), 0, 0x0064⟩)]) (.i (.o (.o (.pS 144 0 Q1 ([] : List Q0) .z))) (.pN 0 6 0x0064 .z)) (fun _ => .z))))
end Go.Proofs.YtbdkbdafhlcilaaGreat
set_option linter.unusedSimpArgs false
set_option linter.unusedVariables false
namespace Go.Proofs.YtbdkbdafhlcilaaGreat
open Go Go.RowKit
set_option maxRecDepth 100000
set_option maxHeartbeats 20000000
instance W9n : Ct (Q2d) fun res => Z0 Tryz.prog 0o00240 [] (fun d => d = (.agg (Q1 res))) :=
 au Tryz.func160 Q2d.eq_1 .z
end Go.Proofs.YtbdkbdafhlcilaaGreat
set_option linter.unusedSimpArgs false
set_option linter.unusedVariables false
namespace Go.Proofs.YtbdkbdafhlcilaaGreat
open Go Go.RowKit
set_option maxRecDepth 100000
set_option maxHeartbeats 20000000
instance X9c : ∀ (p0 : Z8) (p1 : Int), Ct (Z6 p0 p1) fun res => J1 Tryz.prog 0o00056 [⟨2, [(Y4 p0)], 0, 0x009a⟩] [.ptr 2 0 0 0, (eI p1)] (fun H d => H = [some ⟨2, [(Y4 res.2)], 0, 0x009a⟩] ∧ d = (eI res.1)) :=
 au Tryz.func46 Z6.eq_1 (.o (.o (.i .z (.i .z (.i .z (.g [0, 1, 5] [0] [] [] (.o (.o (.o (.d [0, 1, 2, 3, 4, 5, 6, 7, 8, 9, 10, 11, 12, 13, 14, 15, 16, 17, 18, 19, 20, 21, 22, 23, 24, 25, 26, 27, 28, 29, 30, 31, 32, 33, 34, 35, 36, 37, 38, 39, 40, 41, 42, 43, 44, 45] [0] [] .z))))))))))
end Go.Proofs.YtbdkbdafhlcilaaGreat
set_option linter.unusedSimpArgs false
set_option linter.unusedVariables false
namespace Go.Proofs.YtbdkbdafhlcilaaGreat
open Go Go.RowKit
set_option maxRecDepth 100000
set_option maxHeartbeats 20000000
instance W7q : ∀ (n : Nat) (p0 : ByteArray) (p1 : Int), Ct (Q33 n p0 p1) fun res => Z0 Tryz.prog 0o00412 [(eS p0), (.val (.int .u8 p1))] (fun d => d = (.slice 1 (List.map rS res))) :=
 au Tryz.func266 Q33.eq_1 (.o (.o (.o (.w [5] [8] [0, 1, 5, 6, 7] [8] (fun (s203 : (List ByteArray) × Int × Int) => [(5, .sl 1 8 (s203.1).length), (6, eI s203.2.1), (7, eI s203.2.2)]) (fun s203 => [(8, some ⟨1, (List.map rS s203.1), 0, 0x0009⟩)]) (fun s203 => .i (.j 6 0 [0, 1, 5, 6, 7] [0] (fun (s230 : (List ByteArray) × Int) => [(5, .sl 1 0 (s230.1).length), (6, eI s230.2)]) (fun s230 => [(0, some ⟨1, (List.map rS s230.1), 0, 0x0009⟩)]) .z (fun _ => .z)) .z) (fun s211 => .z)))))
end Go.Proofs.YtbdkbdafhlcilaaGreat
set_option linter.unusedSimpArgs false
set_option linter.unusedVariables false
namespace Go.Proofs.YtbdkbdafhlcilaaGreat
open Go Go.RowKit
set_option maxRecDepth 100000
set_option maxHeartbeats 20000000
instance W7l : ∀ (p0 : (List ByteArray)) (p1 : ByteArray), Ct (Q9q p0 p1) fun res => Z0 Tryz.prog 0o00470 [(.slice 1 (List.map rS p0)), (eS p1)] (fun d => d = (eI res)) :=
 au Tryz.func312 Q9q.eq_1 (.o (.o (.i .z (.ls 0 (.f [] [] [0, 1, 5] [] (fun (k46 : Nat) (s42 : Unit) => [(5, eI (k46 : Int))]) (fun k46 s42 => []) (fun k46 s42 => .z) (fun s50 => .z))))))
end Go.Proofs.YtbdkbdafhlcilaaGreat
set_option linter.unusedSimpArgs false
set_option linter.unusedVariables false
namespace Go.Proofs.YtbdkbdafhlcilaaGreat
open Go Go.RowKit
set_option maxRecDepth 100000
set_option maxHeartbeats 20000000
set_option maxRecDepth 100000 in
theorem Z05 (p0 : (List Q4)) (res : (List Q4)) (h : Q03 p0 = some res) : J1 Tryz.prog 0o00175 [] [(.slice 2 (List.map Z2 p0))] (fun H d => H = [some ⟨2, List.map Z2 res, 0, 0x0073⟩] ∧ d = .sl 2 0 res.length) := by
  unfold Q03 at h
  refine J1.of (res := [.tmp 2]) Q7s Tryz.func125 (by decide) rfl (Nat.le_of_ble_eq_true rfl) rfl rfl (fun β hβ => ?_)
  refine TrD.seq ?_
  refine TrD.regK Q7s (fun K hK => ?_)
  simp
  refine hK _ ?_
  refine TrD.seq ?_
  refine TrD.seq ?_
  refine TrD.regK Q7s (fun K hK => ?_)
  simp
  refine ⟨?_, fun hnil => ?_⟩
  · refine hK _ ?_
    refine TrD.cond (b := false) (by simp) (fun hb => by cases hb) (fun hb => ?_)
    refine TrD.skip ?_
    refine TrD.seq ?_
    obtain ⟨x3, hx3, h⟩ := bindE h
    have hx3_r := (Q8q hx3).2
    try simp only [List.length_append, List.length_cons, List.length_nil, List.length_map, Nat.zero_add, Nat.add_zero, Nat.reduceAdd, Z27, Z20] at hx3_r
    obtain hhx3 := Z8m hx3
    subst hhx3
    refine TrD.regK Q7s (fun K hK => ?_)
    simp [hx3_r]
    refine hK _ ?_
    obtain rfl := Option.some.inj h
    refine TrD.ret ?_
    refine Z5h (σ' := ⟨(updD (fun _ => .any) 2 (.sl 2 0 (p0).length)), hOfO [some ⟨2, (List.map Z2 p0), 0, 0x0073⟩], 1, 8⟩) ?_ ?_
    · exact Y1.canonV 0 [40] _ _ hβ (Q61 (by decide)) (by decide) (Q91 (v_of (d0 := (.sl 2 40 (p0).length)) (by simp [hx3_r]) (v_sl rfl)) (Z50 _)) (.cons (lv (L := ⟨2, (List.map Z2 p0), 0, 0x0073⟩) (by simp [hx3_r]) rfl rfl (by simp [hx3_r]) (Q5s (by simp [hx3_r]) (Q7 Q74 _))) .nil)
    · dsimp only [resD]
      exact ⟨[some ⟨2, (List.map Z2 p0), 0, 0x0073⟩], [], rfl, by simp, by simp, .inl rfl, by simp [Q8e]⟩
  · replace h : some ([]) = some res := by simp only [hnil] at h; simpa [app] using h
    refine hK _ ?_
    refine TrD.cond (b := true) (by simp) (fun hb => ?_) (fun hb => by cases hb)
    refine TrD.seq ?_
    refine TrD.regK Q7s (fun K hK => ?_)
    simp
    refine hK _ ?_
    obtain rfl := Option.some.inj h
    refine TrD.ret ?_
    refine Z5h (σ' := ⟨(updD (fun _ => .any) 2 (.sl 2 0 0)), hOfO [some ⟨2, (List.map Z2 []), 0, 0x0073⟩], 1, 8⟩) ?_ ?_
    · refine (Y1.ownNil (s := 2) (by simp) 2 0x0073).trans ?_
      exact Y1.canonV 0 [32] _ _ hβ (Q61 (by decide)) (by decide) (Q91 (v_of (d0 := (.sl 2 32 0)) (by simp) (v_sl rfl)) (Z50 _)) (.cons (lv (L := ⟨2, (List.map Z2 []), 0, 0x0073⟩) (by simp) rfl rfl (by simp) (Q5s (by simp) (Q7 Q74 _))) .nil)
    · dsimp only [resD]
      exact ⟨[some ⟨2, (List.map Z2 []), 0, 0x0073⟩], [], rfl, by simp, by simp, .inl rfl, by simp [Q8e]⟩
instance X0w : ∀ (p0 : (List Q4)), Ct (Q03 p0) fun res => J1 Tryz.prog 0o00175 [] [(.slice 2 (List.map Z2 p0))] (fun H d => H = [some ⟨2, List.map Z2 res, 0, 0x0073⟩] ∧ d = .sl 2 0 res.length) := fun p0 => ⟨Z05 p0⟩
end Go.Proofs.YtbdkbdafhlcilaaGreat
set_option linter.unusedSimpArgs false
set_option linter.unusedVariables false
namespace Go.Proofs.YtbdkbdafhlcilaaGreat
open Go Go.RowKit
set_option maxRecDepth 100000
set_option maxHeartbeats 20000000
instance W50 : ∀ (p0 : (List V1)) (p1 : Int), Ct (Q3f p0 p1) fun res => Z0 Tryz.prog 0o00325 [(.slice 3 (List.map Q1w p0)), (eI p1)] (fun d => d = (.slice 3 (List.map Q1w res))) :=
 au Tryz.func213 Q3f.eq_1 (.o (.o (.ls 0 (.f [5] [8] [0, 1, 5, 6] [8] (fun (k71 : Nat) (s67 : (List V1)) => [(5, .sl 3 8 (s67).length), (6, eI (k71 : Int))]) (fun k71 s67 => [(8, some ⟨3, (List.map Q1w s67), 0, 0x0109⟩)]) (fun k71 s67 => .o (.j 5 0 [0, 1, 5, 6] [0] (fun (s78 : (List V1)) => [(5, .sl 3 0 (s78).length)]) (fun s78 => [(0, some ⟨3, (List.map Q1w s78), 0, 0x0109⟩)]) .z (fun _ => .z))) (fun s75 => .z)))))
end Go.Proofs.YtbdkbdafhlcilaaGreat
