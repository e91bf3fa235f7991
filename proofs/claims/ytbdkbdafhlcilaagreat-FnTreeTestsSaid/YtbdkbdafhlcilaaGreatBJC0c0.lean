import Derived.Test.YtbdkbdafhlcilaaGreatBJMir
import Derived.Test.YtbdkbdafhlcilaaGreatBJAuto
import Derived.Test.YtbdkbdafhlcilaaGreatBJAuI
set_option linter.unusedSimpArgs false
set_option linter.unusedVariables false
set_option linter.unusedSimpArgs false
set_option linter.unusedVariables false
namespace Go.Proofs.YtbdkbdafhlcilaaGreat
open Go Go.RowKit
set_option maxRecDepth 100000
set_option maxHeartbeats 20000000
instance W30 : ∀ (p0 : (List Q3)) (p1 : Q5) (p2 : Int), Ct (Q0x p0 p1 p2) fun res => Z1 Tryz.prog 0o00205 [(.slice 2 (List.map X9 p0)), (.agg (X7 p1)), (eI p2)] (fun d => d = (.slice 2 (List.map X7 res))) :=
 au Tryz.func133 Q0x.eq_1 (.o (.o (.o (.o (.o (.j 3 0 [7, 8] [88] (fun (s4 : Int) => [(8, eI s4)]) (fun _ => []) .z (fun s4 => .pN 9 2 0x0019 (.ls 28 (.f [9] [41] [8, 9, 28, 29, 30] [41] (fun (k103 : Nat) (s99 : (List Q5)) => [(9, .sl 2 41 (s99).length), (30, eI (k103 : Int))]) (fun k103 s99 => [(41, some ⟨2, (List.map X7 s99), 0, 0x0019⟩)]) (fun k103 s99 => .b fun (x104 : Q5) => .j 9 0 [8, 9, 11, 28, 29, 30] [0, 25] (fun (s115 : Int) => []) (fun s115 => [(25, some ⟨2, [[(eI x104.data), (eI s115)]], 0, 0x0019⟩)]) .z (fun _ => .z)) (fun s107 => .z))))))))))
end Go.Proofs.YtbdkbdafhlcilaaGreat
set_option linter.unusedSimpArgs false
set_option linter.unusedVariables false
namespace Go.Proofs.YtbdkbdafhlcilaaGreat
open Go Go.RowKit
set_option maxRecDepth 100000
set_option maxHeartbeats 20000000
set_option maxRecDepth 100000 in
theorem Q9o (p0 : (List Q2)) (res : (List Q2)) (h : Q09 p0 = some res) : J8 Tryz.prog 0o00175 [] [(.slice 2 (List.map Z3 p0))] (fun H d => H = [some ⟨2, List.map Z3 res, 0, 0x0073⟩] ∧ d = .sl 2 0 res.length) := by
  unfold Q09 at h
  refine J8.of (res := [.tmp 2]) Q7p Tryz.func125 (by decide) rfl (Nat.le_of_ble_eq_true rfl) rfl rfl (fun β hβ => ?_)
  refine TrD.seq ?_
  refine TrD.regK Q7p (fun K hK => ?_)
  simp
  refine hK _ ?_
  refine TrD.seq ?_
  refine TrD.seq ?_
  refine TrD.regK Q7p (fun K hK => ?_)
  simp
  refine ⟨?_, fun hnil => ?_⟩
  · refine hK _ ?_
    refine TrD.cond (b := false) (by simp) (fun hb => by cases hb) (fun hb => ?_)
    refine TrD.skip ?_
    refine TrD.seq ?_
    obtain ⟨x3, hx3, h⟩ := bindE h
    have hx3_r := (Q7g hx3).2
    try simp only [List.length_append, List.length_cons, List.length_nil, List.length_map, Nat.zero_add, Nat.add_zero, Nat.reduceAdd, Z1p, Z1h] at hx3_r
    obtain hhx3 := Z4d hx3
    subst hhx3
    refine TrD.regK Q7p (fun K hK => ?_)
    simp [hx3_r]
    refine hK _ ?_
    obtain rfl := Option.some.inj h
    refine TrD.ret ?_
    refine Z1f (σ' := ⟨(updD (fun _ => .any) 2 (.sl 2 0 (p0).length)), hOfO [some ⟨2, (List.map Z3 p0), 0, 0x0073⟩], 1, 8⟩) ?_ ?_
    · exact Y2.canonV 0 [40] _ _ hβ (Q5u (by decide)) (by decide) (Q8p (v_of (d0 := (.sl 2 40 (p0).length)) (by simp [hx3_r]) (v_sl rfl)) (Z4h _)) (.cons (lv (L := ⟨2, (List.map Z3 p0), 0, 0x0073⟩) (by simp [hx3_r]) rfl rfl (by simp [hx3_r]) (Q5i (by simp [hx3_r]) (Q7 Q6z _))) .nil)
    · dsimp only [resD]
      exact ⟨[some ⟨2, (List.map Z3 p0), 0, 0x0073⟩], [], rfl, by simp, by simp, .inl rfl, by simp [Q87]⟩
  · replace h : some ([]) = some res := by simp only [hnil] at h; simpa [app] using h
    refine hK _ ?_
    refine TrD.cond (b := true) (by simp) (fun hb => ?_) (fun hb => by cases hb)
    refine TrD.seq ?_
    refine TrD.regK Q7p (fun K hK => ?_)
    simp
    refine hK _ ?_
    obtain rfl := Option.some.inj h
    refine TrD.ret ?_
    refine Z1f (σ' := ⟨(updD (fun _ => .any) 2 (.sl 2 0 0)), hOfO [some ⟨2, (List.map Z3 []), 0, 0x0073⟩], 1, 8⟩) ?_ ?_
    · refine (Y2.ownNil (s := 2) (by simp) 2 0x0073).trans ?_
      exact Y2.canonV 0 [32] _ _ hβ (Q5u (by decide)) (by decide) (Q8p (v_of (d0 := (.sl 2 32 0)) (by simp) (v_sl rfl)) (Z4h _)) (.cons (lv (L := ⟨2, (List.map Z3 []), 0, 0x0073⟩) (by simp) rfl rfl (by simp) (Q5i (by simp) (Q7 Q6z _))) .nil)
    · dsimp only [resD]
      exact ⟨[some ⟨2, (List.map Z3 []), 0, 0x0073⟩], [], rfl, by simp, by simp, .inl rfl, by simp [Q87]⟩
instance X0g : ∀ (p0 : (List Q2)), Ct (Q09 p0) fun res => J8 Tryz.prog 0o00175 [] [(.slice 2 (List.map Z3 p0))] (fun H d => H = [some ⟨2, List.map Z3 res, 0, 0x0073⟩] ∧ d = .sl 2 0 res.length) := fun p0 => ⟨Q9o p0⟩
end Go.Proofs.YtbdkbdafhlcilaaGreat
set_option linter.unusedSimpArgs false
set_option linter.unusedVariables false
namespace Go.Proofs.YtbdkbdafhlcilaaGreat
open Go Go.RowKit
set_option maxRecDepth 100000
set_option maxHeartbeats 20000000
instance X1a : ∀ (p0 : (List Grow)) (p1 : (Grow → Option Bool)) {p1_f : FuncId} {p1_c : List D} [p1_i : CF1 (fun a0 => (.agg (Q41 a0))) (fun r => (eB r)) p1 p1_f p1_c], Ct (Q1f p0 p1) fun res => Z1 Tryz.prog 0o00373 [(.slice 3 (List.map Q41 p0)), .clos p1_f p1_c] (fun d => d = (eI res)) :=
 au Tryz.func251 Q1f.eq_1 (.o (.o (.o (.o (.o (.ls 0 (.f [] [] [0, 1, 7, 8] [] (fun (k54 : Nat) (s50 : Unit) => [(8, eI (k54 : Int))]) (fun k54 s50 => []) (fun k54 s50 => .z) (fun s58 => .z))))))))
end Go.Proofs.YtbdkbdafhlcilaaGreat
set_option linter.unusedSimpArgs false
set_option linter.unusedVariables false
namespace Go.Proofs.YtbdkbdafhlcilaaGreat
open Go Go.RowKit
set_option maxRecDepth 100000
set_option maxHeartbeats 20000000
instance X0h : ∀ (p0 : Grow) (q0 : Grow), Ct (J4 p0 q0) fun res => Z1 Tryz.prog 0o00320 [(.agg (Q41 p0)), .cptr (Q41 q0)] (fun d => d = (eB res)) :=
 au Tryz.func208 J4.eq_1 .z
end Go.Proofs.YtbdkbdafhlcilaaGreat
set_option linter.unusedSimpArgs false
set_option linter.unusedVariables false
namespace Go.Proofs.YtbdkbdafhlcilaaGreat
open Go Go.RowKit
set_option maxRecDepth 100000
set_option maxHeartbeats 20000000
instance X0e : ∀ (p0 : (List J7)) (p1 : (J7 → Option Bool)) {p1_f : FuncId} {p1_c : List D} [p1_i : CF1 (fun a0 => (.agg (Q5p a0))) (fun r => (eB r)) p1 p1_f p1_c], Ct (Q18 p0 p1) fun res => Z1 Tryz.prog 0o00276 [(.slice 4 (List.map Q5p p0)), .clos p1_f p1_c] (fun d => d = (eI res)) :=
 au Tryz.func190 Q18.eq_1 (.o (.o (.o (.o (.o (.ls 0 (.f [] [] [0, 1, 7, 8] [] (fun (k54 : Nat) (s50 : Unit) => [(8, eI (k54 : Int))]) (fun k54 s50 => []) (fun k54 s50 => .z) (fun s58 => .z))))))))
end Go.Proofs.YtbdkbdafhlcilaaGreat
set_option linter.unusedSimpArgs false
set_option linter.unusedVariables false
namespace Go.Proofs.YtbdkbdafhlcilaaGreat
open Go Go.RowKit
set_option maxRecDepth 100000
set_option maxHeartbeats 20000000
instance W4i : ∀ (n : Nat) (p0 : (List Q2)), Ct (Q3c n p0) fun res => Z1 Tryz.prog 0o00324 [(.slice 2 (List.map Z3 p0))] (fun d => d = (.slice 2 (List.map Z3 res))) :=
 au Tryz.func212 Q3c.eq_1 (.o (.o (.w [3] [8] [0, 3, 4] [8] (fun (s496 : (List Q2) × Int) => [(3, .sl 2 8 (s496.1).length), (4, eI s496.2)]) (fun s496 => [(8, some ⟨2, (List.map Z3 s496.1), 0, 0x0073⟩)]) (fun s496 => .i (.ls 0 (.f [0, 3, 4] [0] [0, 3, 4, 5] [0] (fun (k587 : Nat) (s583 : (List Q2)) => [(3, .sl 2 0 (s583).length), (5, eI (k587 : Int))]) (fun k587 s583 => [(0, some ⟨2, (List.map Z3 s583), 0, 0x0073⟩)]) (fun k587 s583 => .o (.j 8 0 [0, 3, 4, 5] [0] (fun (s595 : (List Q2)) => [(3, .sl 2 0 (s595).length)]) (fun s595 => [(0, some ⟨2, (List.map Z3 s595), 0, 0x0073⟩)]) (.i (.o (.o (.pF 153 .z))) .z) (fun _ => .z))) (fun s591 => .z))) .z) (fun s504 => .z))))
end Go.Proofs.YtbdkbdafhlcilaaGreat
set_option linter.unusedSimpArgs false
set_option linter.unusedVariables false
namespace Go.Proofs.YtbdkbdafhlcilaaGreat
open Go Go.RowKit
set_option maxRecDepth 100000
set_option maxHeartbeats 20000000
instance W4h : ∀ (p0 : (List V4)) (p1 : Int), Ct (Q3b p0 p1) fun res => Z1 Tryz.prog 0o00374 [(.slice 3 (List.map Q1n p0)), (eI p1)] (fun d => d = (eI res)) :=
 au Tryz.func252 Q3b.eq_1 (.o (.o (.ls 0 (.f [5] [] [0, 1, 5, 6] [] (fun (k71 : Nat) (s67 : Int) => [(5, eI s67), (6, eI (k71 : Int))]) (fun k71 s67 => []) (fun k71 s67 => .o (.j 5 0 [0, 1, 5, 6] [] (fun (s78 : Int) => [(5, eI s78)]) (fun _ => []) .z (fun _ => .z))) (fun s75 => .z)))))
end Go.Proofs.YtbdkbdafhlcilaaGreat
set_option linter.unusedSimpArgs false
set_option linter.unusedVariables false
namespace Go.Proofs.YtbdkbdafhlcilaaGreat
open Go Go.RowKit
set_option maxRecDepth 100000
set_option maxHeartbeats 20000000
instance W78 : ∀ (p0 : Q70) (p1 : Int), Ct (Q99 p0 p1) fun res => Z1 Tryz.prog 0o00265 [(.agg (Q61 p0)), (eI p1)] (fun d => d = (eB res)) :=
 au Tryz.func181 Q99.eq_1 .z
end Go.Proofs.YtbdkbdafhlcilaaGreat
set_option linter.unusedSimpArgs false
set_option linter.unusedVariables false
namespace Go.Proofs.YtbdkbdafhlcilaaGreat
open Go Go.RowKit
set_option maxRecDepth 100000
set_option maxHeartbeats 20000000
instance W94 : Ct (Q24) fun res => Z1 Tryz.prog 0o00240 [] (fun d => d = (.agg (Q8 res))) :=
 au Tryz.func160 Q24.eq_1 .z
end Go.Proofs.YtbdkbdafhlcilaaGreat
set_option linter.unusedSimpArgs false
set_option linter.unusedVariables false
namespace Go.Proofs.YtbdkbdafhlcilaaGreat
open Go Go.RowKit
set_option maxRecDepth 100000
set_option maxHeartbeats 20000000
instance W97 : ∀ (p0 : (List Int)) (p1 : Int), Ct (Q4n p0 p1) fun res => Z1 Tryz.prog 0o00136 [(.slice 1 (List.map rI p0)), (eI p1)] (fun d => d = (eB res)) :=
 au Tryz.func94 Q4n.eq_1 (.o (.o (.ls 0 (.f [] [] [0, 1, 5] [] (fun (k44 : Nat) (s40 : Unit) => [(5, eI (k44 : Int))]) (fun k44 s40 => []) (fun k44 s40 => .z) (fun s48 => .z)))))
end Go.Proofs.YtbdkbdafhlcilaaGreat
set_option linter.unusedSimpArgs false
set_option linter.unusedVariables false
namespace Go.Proofs.YtbdkbdafhlcilaaGreat
open Go Go.RowKit
set_option maxRecDepth 100000
set_option maxHeartbeats 20000000
instance X94 : ∀ (p0 : Q2q) (p1 : (List J7)), Ct (Q2a p0 p1) fun res => Z1 Tryz.prog 0o00164 [(.agg (Q74 p0)), (.slice 4 (List.map Q5p p1))] (fun d => d = (eB res)) :=
 au Tryz.func116 Q2a.eq_1 (.o (.o (.i .z (.ls 1 (.f [] [] [1, 2, 5] [0] (fun (k179 : Nat) (s175 : Unit) => [(5, eI (k179 : Int))]) (fun k179 s175 => []) (fun k179 s175 => .o (.j 6 0 [1, 2, 5] [0] (fun (s196 : Unit) => []) (fun _ => []) (.g [1, 2, 5] [0] [] [] (.d [0, 1, 2, 3, 4, 5, 6, 7] [0] [] .z)) (fun _ => .z))) (fun s183 => .z))))))
end Go.Proofs.YtbdkbdafhlcilaaGreat
set_option linter.unusedSimpArgs false
set_option linter.unusedVariables false
namespace Go.Proofs.YtbdkbdafhlcilaaGreat
open Go Go.RowKit
set_option maxRecDepth 100000
set_option maxHeartbeats 20000000
instance W2h : ∀ (p0 : (List Z0)) (p1 : Q1), Ct (Q4l p0 p1) fun res => Z1 Tryz.prog 0o00226 [(.slice 9 (List.map J1 p0)), (.agg (X0 p1))] (fun d => d = .tup [(.agg (Q16 res.1)), (eB res.2)]) :=
 au Tryz.func150 Q4l.eq_1 (.o (.o (.ls 0 (.f [4] [8] [0, 3, 4, 6] [0, 8] (fun (k159 : Nat) (s155 : Unit) => [(6, eI (k159 : Int))]) (fun k159 s155 => []) (fun k159 s155 => .o (.j 4 0 [0, 3, 4, 6] [0, 1] (fun (s175 : Unit) => []) (fun _ => []) .z (fun _ => .z))) (fun s163 => .z)))))
end Go.Proofs.YtbdkbdafhlcilaaGreat
set_option linter.unusedSimpArgs false
set_option linter.unusedVariables false
namespace Go.Proofs.YtbdkbdafhlcilaaGreat
open Go Go.RowKit
set_option maxRecDepth 100000
set_option maxHeartbeats 20000000
instance W51 : ∀ (p0 : (List Int)), Ct (Q0u p0) fun res => J8 Tryz.prog 0o00054 [] [(.slice 1 (List.map (rK .u8) p0))] (fun H d => H = [some ⟨2, [(Y0 res)], 0, 0x009a⟩] ∧ d = .ptr 2 0 0 0) :=
 au Tryz.func44 Q0u.eq_1 (.o (.j 1 0 [0] [] (fun (s3 : (List Int)) => [(0, .slice 1 (List.map (rK .u8) s3))]) (fun _ => []) .z (fun _ => .z)))
end Go.Proofs.YtbdkbdafhlcilaaGreat
set_option linter.unusedSimpArgs false
set_option linter.unusedVariables false
namespace Go.Proofs.YtbdkbdafhlcilaaGreat
open Go Go.RowKit
set_option maxRecDepth 100000
set_option maxHeartbeats 20000000
instance W7d : ∀ (n : Nat) (p0 : Int), Ct (Q69 n p0) fun res => Z1 Tryz.prog 0o00472 [(eI p0)] (fun d => d = (eS res)) :=
 ar (au Tryz.func314 Q69.eq_2 (.o (.o (.o (.i .z (.i .z (.w [0, 3] [] [0, 3] [] (fun (s18 : Int × ByteArray) => [(0, eI s18.1), (3, eS s18.2)]) (fun s18 => []) (fun s18 => .z) (fun s26 => .z))))))))
end Go.Proofs.YtbdkbdafhlcilaaGreat
