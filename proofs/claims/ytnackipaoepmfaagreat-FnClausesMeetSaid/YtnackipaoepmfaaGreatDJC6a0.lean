import Derived.Test.YtnackipaoepmfaaGreatDJMir
import Derived.Test.YtnackipaoepmfaaGreatDJAuto
import Derived.Test.YtnackipaoepmfaaGreatDJC1c0
import Derived.Test.YtnackipaoepmfaaGreatDJC5c0
import Derived.Test.YtnackipaoepmfaaGreatDJC3d0
import Derived.Test.YtnackipaoepmfaaGreatDJC4b0
import Derived.Test.YtnackipaoepmfaaGreatDJC5a0
import Derived.Test.YtnackipaoepmfaaGreatDJC5b0
import Derived.Test.YtnackipaoepmfaaGreatDJC0a0
import Derived.Test.YtnackipaoepmfaaGreatDJC2b0
import Derived.Test.YtnackipaoepmfaaGreatDJC5d0
import Derived.Test.YtnackipaoepmfaaGreatDJC1b0
import Derived.Test.YtnackipaoepmfaaGreatDJC2a0
import Derived.Test.YtnackipaoepmfaaGreatDJAuI
import Derived.Test.YtnackipaoepmfaaGreatDJC2c0
set_option linter.unusedSimpArgs false
set_option linter.unusedVariables false
set_option linter.unusedSimpArgs false
set_option linter.unusedVariables false
namespace Go.Proofs.YtnackipaoepmfaaGreat
open Go Go.RowKit
set_option maxRecDepth 100000
set_option maxHeartbeats 20000000
instance X3o : ∀ (n : Nat) (p0 : (List Q3)) (p1 : Q2) (p2 : (List Z5)), Ct (Q2c n p0 p1 p2) fun res => Q9 Tryz.prog 0o00111 [(.slice 2 (List.map Z6 p0)), (.agg (Z2 p1)), (.slice 9 (List.map Z8 p2))] (fun d => d = (eB res)) :=
 au Tryz.func73 Q2c.eq_1 .z
end Go.Proofs.YtnackipaoepmfaaGreat
set_option linter.unusedSimpArgs false
set_option linter.unusedVariables false
namespace Go.Proofs.YtnackipaoepmfaaGreat
open Go Go.RowKit
set_option maxRecDepth 100000
set_option maxHeartbeats 20000000
instance Z30 : ∀ (n : Nat) (p0 : (List Q3)) (p1 : Q2) (p2 : (List Z5)) (p3 : Q6), Ct (Q1b n p0 p1 p2 p3) fun res => Q9 Tryz.prog 0o00031 [(.slice 2 (List.map Z6 p0)), (.agg (Z2 p1)), (.slice 9 (List.map Z8 p2)), (.agg (X3 p3))] (fun d => d = .tup [(eI res.1), (.slice 4 (List.map Q0q res.2.1)), (eB res.2.2)]) :=
 au Tryz.func25 Q1b.eq_1 .z
theorem Q86 (n : Nat) (p0 : (List Q3)) (p1 : Q2) (p2 : (List Z5)) (p3 : Q6) : ∀ res, Q1b n p0 p1 p2 p3 = some res → Q9 Tryz.prog 0o00031 [(.slice 2 (List.map Z6 p0)), (.agg (Z2 p1)), (.slice 9 (List.map Z8 p2)), (.agg (X3 p3))] (fun d => d = .tup [(eI res.1), (.slice 4 (List.map Q0q res.2.1)), (eB res.2.2)]) := (Z30 n p0 p1 p2 p3).pf
end Go.Proofs.YtnackipaoepmfaaGreat
set_option linter.unusedSimpArgs false
set_option linter.unusedVariables false
namespace Go.Proofs.YtnackipaoepmfaaGreat
open Go Go.RowKit
set_option maxRecDepth 100000
set_option maxHeartbeats 20000000
instance W2o : ∀ (n : Nat) (p0 : X0), Ct (Q61 n p0) fun res => Q1d Tryz.prog 0o00262 [⟨2, [(Q08 p0)], 0, 0x00c4⟩] [.ptr 2 0 0 0] (fun H d => H = [some ⟨2, [(Q08 res.2.2.2.2)], 0, 0x00c4⟩] ∧ d = .tup [(.slice 2 (List.map Z6 res.1)), (.agg (Z2 res.2.1)), (.agg (Q1 res.2.2.1)), (.agg (X3 res.2.2.2.1))]) :=
 au Tryz.func178 Q61.eq_1 (.o (.o (.o (.g [0, 3, 4, 5, 6, 7, 8] [0, 9, 17, 25, 81, 89] [] [] (.o (.d [0, 1, 2, 3, 4, 6, 5, 7, 8, 9, 10] [4, 5] [] .z))))))
end Go.Proofs.YtnackipaoepmfaaGreat
set_option linter.unusedSimpArgs false
set_option linter.unusedVariables false
namespace Go.Proofs.YtnackipaoepmfaaGreat
open Go Go.RowKit
set_option maxRecDepth 100000
set_option maxHeartbeats 20000000
instance W4b : ∀ (n : Nat) (p0 : (List Int)), Ct (Q6j n p0) fun res => Q9 Tryz.prog 0o00127 [(.slice 1 (List.map (rK .u8) p0))] (fun d => d = .tup [(.slice 2 (List.map Z6 res.1)), (.agg (Z2 res.2.1)), (.agg (Q1 res.2.2.1)), (.agg (Q1 res.2.2.2))]) :=
 au Tryz.func87 Q6j.eq_1 (.o (.o (.o (.o (.g [3, 4, 5, 6, 7, 8, 9] [8, 16, 24, 41, 112, 120] [] [] (.o (.o (.d [0, 1, 2, 3, 5, 6, 7, 4, 8, 9, 10, 11, 12] [4, 5] [] .z))))))))
end Go.Proofs.YtnackipaoepmfaaGreat
set_option linter.unusedSimpArgs false
set_option linter.unusedVariables false
namespace Go.Proofs.YtnackipaoepmfaaGreat
open Go Go.RowKit
set_option maxRecDepth 100000
set_option maxHeartbeats 20000000
instance Q95 : ∀ (n : Nat) (p0 : (List Int)), Ct (Q0b n p0) fun res => Q9 Tryz.prog 0o00032 [(.slice 1 (List.map (rK .u8) p0))] (fun d => d = .tup [(.slice 2 (List.map Z6 res.1)), (.agg (Z2 res.2.1)), (.agg (Z8 res.2.2.1)), (.agg (Z8 res.2.2.2))]) :=
 au Tryz.func26 Q0b.eq_1 (.o (.o (.o (.g [3, 4, 5, 6, 7, 8, 9] [8, 16, 24, 88, 96, 104] [] [] (.d [0, 1, 2, 3, 4, 5, 6, 7, 8, 9] [3, 4, 5] [] .z)))))
theorem Q96 (n : Nat) (p0 : (List Int)) : ∀ res, Q0b n p0 = some res → Q9 Tryz.prog 0o00032 [(.slice 1 (List.map (rK .u8) p0))] (fun d => d = .tup [(.slice 2 (List.map Z6 res.1)), (.agg (Z2 res.2.1)), (.agg (Z8 res.2.2.1)), (.agg (Z8 res.2.2.2))]) := (Q95 n p0).pf
end Go.Proofs.YtnackipaoepmfaaGreat
set_option linter.unusedSimpArgs false
set_option linter.unusedVariables false
namespace Go.Proofs.YtnackipaoepmfaaGreat
open Go Go.RowKit
set_option maxRecDepth 100000
set_option maxHeartbeats 20000000
instance Z9s : ∀ (n : Nat) (p0 : Q0w) (p1 : Q2) (p2 : (List Q0)), Ct (Q0d n p0 p1 p2) fun res => Q9 Tryz.prog 0o00153 [.cptr (Q1k p0), (.agg (Z2 p1)), (.slice 6 (List.map Q1 p2))] (fun d => d = .tup [(.slice 6 (List.map Q1 res.1)), (eB res.2)]) :=
 au Tryz.func107 Q0d.eq_1 (.o (.o (.o (.o (.pN 8 6 0x0033 (.ls 2 (.f [8] [56] [0, 2, 4, 8, 13, 14, 15] [0, 56] (fun (k86 : Nat) (s82 : (List Q0)) => [(8, .sl 6 56 (s82).length), (15, eI (k86 : Int))]) (fun k86 s82 => [(56, some ⟨6, (List.map Q1 s82), 0, 0x0033⟩)]) (fun k86 s82 => .o (.g [0, 2, 4, 8, 9, 10, 13, 14, 15] [0, 1, 34] [] [] (.o (.o (.d [0, 1, 2, 4, 5, 6, 3, 7, 8, 9, 10, 11, 12] [0, 2] [] .z))))) (fun s90 => .z))))))))
end Go.Proofs.YtnackipaoepmfaaGreat
set_option linter.unusedSimpArgs false
set_option linter.unusedVariables false
namespace Go.Proofs.YtnackipaoepmfaaGreat
open Go Go.RowKit
set_option maxRecDepth 100000
set_option maxHeartbeats 20000000
instance X2e : ∀ (n : Nat) (p0 : Q0w) (p1 : Q2) (p2 : (List Q0)) (p3 : Bool), Ct (Q1w n p0 p1 p2 p3) fun res => Q9 Tryz.prog 0o00155 [.cptr (Q1k p0), (.agg (Z2 p1)), (.slice 6 (List.map Q1 p2)), (eB p3)] (fun d => d = .tup [(.slice 6 (List.map Q1 res.1)), (eB res.2)]) :=
 au Tryz.func109 Q1w.eq_1 .z
end Go.Proofs.YtnackipaoepmfaaGreat
set_option linter.unusedSimpArgs false
set_option linter.unusedVariables false
namespace Go.Proofs.YtnackipaoepmfaaGreat
open Go Go.RowKit
set_option maxRecDepth 100000
set_option maxHeartbeats 20000000
instance X8w : ∀ (n : Nat) (p0 : (List Q3)) (p1 : Q2) (p2 : Q0) (p3 : Q0), Ct (Q4y n p0 p1 p2 p3) fun res => Q9 Tryz.prog 0o00264 [(.slice 2 (List.map Z6 p0)), (.agg (Z2 p1)), (.agg (Q1 p2)), (.agg (Q1 p3))] (fun d => d = .tup [(.slice 6 (List.map Q1 res.1)), (.slice 6 (List.map Q1 res.2.1)), (eB res.2.2)]) :=
 au Tryz.func180 Q4y.eq_1 .z
end Go.Proofs.YtnackipaoepmfaaGreat
set_option linter.unusedSimpArgs false
set_option linter.unusedVariables false
namespace Go.Proofs.YtnackipaoepmfaaGreat
open Go Go.RowKit
set_option maxRecDepth 100000
set_option maxHeartbeats 20000000
instance X3m : ∀ (n : Nat) (p0 : (List Q3)) (p1 : Q2) (p2 : Q0) (p3 : Q0), Ct (Q1c n p0 p1 p2 p3) fun res => Q9 Tryz.prog 0o00131 [(.slice 2 (List.map Z6 p0)), (.agg (Z2 p1)), (.agg (Q1 p2)), (.agg (Q1 p3))] (fun d => d = .tup [(.slice 6 (List.map Q1 res.1)), (eB res.2)]) :=
 au Tryz.func89 Q1c.eq_1 (.o (.o (.o (.o (.o (.o (.i .z (.o (.pN 14 6 0x0033 (.ls 27 (.f [5, 13, 14] [0, 208] [5, 11, 13, 14, 34, 35, 36] [0, 208] (fun (k510 : Nat) (s506 : (List Q0)) => [(14, .sl 6 208 (s506).length), (36, eI (k510 : Int))]) (fun k510 s506 => [(208, some ⟨6, (List.map Q1 s506), 0, 0x0033⟩)]) (fun k510 s506 => .o (.ls 11 (.f [5, 11, 13, 14, 34, 35, 36] [0, 1] [5, 11, 13, 14, 16, 34, 35, 36, 40, 41, 42] [0, 1, 26] (fun (k595 : Nat) (s591 : (List Q0)) => [(14, .sl 6 1 (s591).length), (42, eI (k595 : Int))]) (fun k595 s591 => [(1, some ⟨6, (List.map Q1 s591), 0, 0x0033⟩)]) (fun k595 s591 => .o (.j 11 0 [5, 11, 13, 14, 16, 34, 35, 36, 40, 41, 42] [0, 1, 2] (fun (s603 : (List Q0)) => [(14, .sl 6 1 (s603).length)]) (fun s603 => [(1, some ⟨6, (List.map Q1 s603), 0, 0x0033⟩)]) .z (fun _ => .z))) (fun s599 => .z)))) (fun s514 => .z))))))))))))
end Go.Proofs.YtnackipaoepmfaaGreat
set_option linter.unusedSimpArgs false
set_option linter.unusedVariables false
namespace Go.Proofs.YtnackipaoepmfaaGreat
open Go Go.RowKit
set_option maxRecDepth 100000
set_option maxHeartbeats 20000000
instance Z27 : ∀ (n : Nat) (p0 : (List Q3)) (p1 : Q2) (p2 : Z5) (p3 : Z5), Ct (Q1q n p0 p1 p2 p3) fun res => Q9 Tryz.prog 0o00033 [(.slice 2 (List.map Z6 p0)), (.agg (Z2 p1)), (.agg (Z8 p2)), (.agg (Z8 p3))] (fun d => d = .tup [(eB res.1), (eB res.2)]) :=
 au Tryz.func27 Q1q.eq_1 .z
theorem Z2o (n : Nat) (p0 : (List Q3)) (p1 : Q2) (p2 : Z5) (p3 : Z5) : ∀ res, Q1q n p0 p1 p2 p3 = some res → Q9 Tryz.prog 0o00033 [(.slice 2 (List.map Z6 p0)), (.agg (Z2 p1)), (.agg (Z8 p2)), (.agg (Z8 p3))] (fun d => d = .tup [(eB res.1), (eB res.2)]) := (Z27 n p0 p1 p2 p3).pf
end Go.Proofs.YtnackipaoepmfaaGreat
set_option linter.unusedSimpArgs false
set_option linter.unusedVariables false
namespace Go.Proofs.YtnackipaoepmfaaGreat
open Go Go.RowKit
set_option maxRecDepth 100000
set_option maxHeartbeats 20000000
instance X3h : ∀ (n : Nat) (p0 : (List Q3)) (p1 : Q2) (p2 : Q0) (p3 : Q0), Ct (Q1a n p0 p1 p2 p3) fun res => Q9 Tryz.prog 0o00133 [(.slice 2 (List.map Z6 p0)), (.agg (Z2 p1)), (.agg (Q1 p2)), (.agg (Q1 p3))] (fun d => d = .tup [(.slice 6 (List.map Q1 res.1)), (eB res.2)]) :=
 au Tryz.func91 Q1a.eq_1 (.o (.o (.o (.o (.o (.o (.i .z (.ls 26 (.f [0, 5, 13] [0, 152] [0, 5, 10, 11, 13, 14] [0, 152] (fun (k549 : Nat) (s545 : (List Q0)) => [(13, .sl 6 152 (s545).length), (14, eI (k549 : Int))]) (fun k549 s545 => [(152, some ⟨6, (List.map Q1 s545), 0, 0x0033⟩)]) (fun k549 s545 => .o (.ls 11 (.f [0, 5, 10, 11, 13, 14] [0, 1] [0, 5, 10, 11, 13, 14, 15] [0, 1] (fun (k634 : Nat) (s630 : (List Q0)) => [(13, .sl 6 1 (s630).length), (15, eI (k634 : Int))]) (fun k634 s630 => [(1, some ⟨6, (List.map Q1 s630), 0, 0x0033⟩)]) (fun k634 s630 => .o (.j 11 0 [0, 5, 10, 11, 13, 14, 15] [0, 1] (fun (s642 : (List Q0)) => [(13, .sl 6 1 (s642).length)]) (fun s642 => [(1, some ⟨6, (List.map Q1 s642), 0, 0x0033⟩)]) (.g [0, 5, 10, 11, 13, 14, 15] [0, 1] [] [] (.o (.dz [0, 1, 2, 3, 4, 5, 6, 7, 8, 9, 10, 11, 12, 13, 14] [] [1048592] [] .z))) (fun _ => .z))) (fun s638 => .z)))) (fun s553 => .g [0, 5, 13] [0, 1] [] [] (.o (.o (.d [0, 1, 3, 4, 2, 5, 6, 7, 8, 9, 10] [0] [] .z)))))))))))))
end Go.Proofs.YtnackipaoepmfaaGreat
set_option linter.unusedSimpArgs false
set_option linter.unusedVariables false
namespace Go.Proofs.YtnackipaoepmfaaGreat
open Go Go.RowKit
set_option maxRecDepth 100000
set_option maxHeartbeats 20000000
instance Z26 : ∀ (n : Nat) (p0 : (List Q3)) (p1 : Q2) (p2 : Z5) (p3 : Z5), Ct (Q1o n p0 p1 p2 p3) fun res => Q9 Tryz.prog 0o00034 [(.slice 2 (List.map Z6 p0)), (.agg (Z2 p1)), (.agg (Z8 p2)), (.agg (Z8 p3))] (fun d => d = .tup [(eB res.1), (eB res.2)]) :=
 au Tryz.func28 Q1o.eq_1 .z
theorem Z2n (n : Nat) (p0 : (List Q3)) (p1 : Q2) (p2 : Z5) (p3 : Z5) : ∀ res, Q1o n p0 p1 p2 p3 = some res → Q9 Tryz.prog 0o00034 [(.slice 2 (List.map Z6 p0)), (.agg (Z2 p1)), (.agg (Z8 p2)), (.agg (Z8 p3))] (fun d => d = .tup [(eB res.1), (eB res.2)]) := (Z26 n p0 p1 p2 p3).pf
end Go.Proofs.YtnackipaoepmfaaGreat
set_option linter.unusedSimpArgs false
set_option linter.unusedVariables false
namespace Go.Proofs.YtnackipaoepmfaaGreat
open Go Go.RowKit
set_option maxRecDepth 100000
set_option maxHeartbeats 20000000
set_option maxRecDepth 100000 in
set_option maxHeartbeats 20000000 in
theorem Q6i (n : Nat) (p0 : (List Int)) (p1 : (List Int)) (res : Bool) (h : Q0z n p0 p1 = some res) : Q9 Tryz.prog 0o00005 [(.slice 1 (List.map (rK .u8) p0)), (.slice 1 (List.map (rK .u8) p1))] (fun d => d = (eB res)) := by
  unfold Q0z at h
  refine Q9.of (res := [.tmp 4]) Q1s Tryz.func5 (by decide) rfl (Nat.le_of_ble_eq_true rfl) rfl rfl (fun β hβ0 => ?_)
  have hβ : ∀ k x, β.c0.M k = some x → k < 0 := fun k x hx => by rw [hβ0] at hx; cases hx
  refine TrD.seq ?_
  refine TrD.regK Q1s (fun K hK => ?_)
  simp
  refine hK _ ?_
  refine TrD.seq ?_
  refine TrD.seq ?_
  rcases Bool.eq_false_or_eq_true (ilt 1048576 (lenZ p0.length)) with hb9 | hb9
  · rw [if_pos hb9] at h
    refine TrD.regK Q1s (fun K hK => ?_)
    simp [hb9]
    refine hK _ ?_
    refine TrD.cond (b := true) (by simp [hb9]) (fun hb => ?_) (fun hb => by cases hb)
    refine TrD.seq ?_
    refine TrD.regK Q1s (fun K hK => ?_)
    simp [hb9]
    refine hK _ ?_
    obtain rfl := Option.some.inj h
    refine TrD.ret ?_
    refine Q5q (σ' := ⟨(updD (fun _ => .any) 4 (eB true)), hOfO [], 0, 142⟩) ?_ ?_
    · exact W2.canonV 0 [] _ _ hβ (W8 (by decide)) (by decide) (W3 (v_of (d0 := (eB true)) (by simp [hb9]) (J1 (by simp) (by simp [hb9]))) (Q2k _)) .nil
    · dsimp only [resD]
      refine endF ?_ ?_ <;> simp [Q4d]
  · rw [if_neg (Q04 hb9)] at h
    refine TrD.regK Q1s (fun K hK => ?_)
    simp [hb9]
    refine hK _ ?_
    refine TrD.cond (b := ilt 1048576 (lenZ p1.length)) (by simp [hb9]) (fun hb10 => ?_) (fun hb10 => ?_)
    · rw [if_pos hb10] at h
      refine TrD.seq ?_
      refine TrD.regK Q1s (fun K hK => ?_)
      simp [hb9, hb10]
      refine hK _ ?_
      obtain rfl := Option.some.inj h
      refine TrD.ret ?_
      refine Q5q (σ' := ⟨(updD (fun _ => .any) 4 (eB true)), hOfO [], 0, 142⟩) ?_ ?_
      · exact W2.canonV 0 [] _ _ hβ (W8 (by decide)) (by decide) (W3 (v_of (d0 := (eB true)) (by simp [hb9, hb10]) (J1 (by simp) (by simp [hb9, hb10]))) (Q2k _)) .nil
      · dsimp only [resD]
        refine endF ?_ ?_ <;> simp [Q4d]
    · rw [if_neg (Q04 hb10)] at h
      refine TrD.skip ?_
      refine TrD.seq ?_
      obtain ⟨r11, hr11, h⟩ := bindE h
      refine TrD.regK Q1s (fun K hK => ?_)
      simp [hb9, hb10]
      refine Z9f (Q96 n p0 _ hr11) (by simp [hb9, hb10]) (by simp) (fun q786 hq786 => ?_)
      subst hq786
      simp [hb9, hb10]
      refine hK _ ?_
      refine TrD.seq ?_
      obtain ⟨r12, hr12, h⟩ := bindE h
      refine TrD.regK Q1s (fun K hK => ?_)
      simp [hb9, hb10]
      refine Z9f (Z2o n r11.1 r11.2.1 r11.2.2.1 r11.2.2.2 _ hr12) (by simp [hb9, hb10]) (by simp) (fun q785 hq785 => ?_)
      subst hq785
      simp [hb9, hb10]
      refine hK _ ?_
      refine TrD.seq ?_
      obtain ⟨r13, hr13, h⟩ := bindE h
      refine TrD.regK Q1s (fun K hK => ?_)
      simp [hb9, hb10]
      refine Z9f (Z2n n r11.1 r11.2.1 r11.2.2.1 r11.2.2.2 _ hr13) (by simp [hb9, hb10]) (by simp) (fun q784 hq784 => ?_)
      subst hq784
      simp [hb9, hb10]
      refine hK _ ?_
      refine TrD.seq ?_
      refine TrD.seq ?_
      rcases Bool.eq_false_or_eq_true (!(r12.2 == r13.2)) with hb56 | hb56
      · rw [if_pos hb56] at h
        refine TrD.regK Q1s (fun K hK => ?_)
        simp [hb9, hb10, hb56]
        refine hK _ ?_
        refine TrD.cond (b := true) (by simp [hb9, hb10, hb56]) (fun hb => ?_) (fun hb => by cases hb)
        refine TrD.seq ?_
        rcases Bool.eq_false_or_eq_true (r12.2 == r13.2) with hb58 | hb58
        · rw [if_pos hb58] at h
          refine TrD.regK Q1s (fun K hK => ?_)
          simp [hb9, hb10, hb56, hb58]
          refine hK _ ?_
          obtain rfl := Option.some.inj h
          refine TrD.ret ?_
          refine Q5q (σ' := ⟨(updD (fun _ => .any) 4 (eB (r12.1 == r13.1))), hOfO [], 0, 142⟩) ?_ ?_
          · exact W2.canonV 0 [] _ _ hβ (W8 (by decide)) (by decide) (W3 (v_of (d0 := (eB (r12.1 == r13.1))) (by simp [hb9, hb10, hb56, hb58]) (J1 (by simp) (by simp [hb9, hb10, hb56, hb58]))) (Q2k _)) .nil
          · dsimp only [resD]
            refine endF ?_ ?_ <;> simp [Q4d]
        · rw [if_neg (Q04 hb58)] at h
          refine TrD.regK Q1s (fun K hK => ?_)
          simp [hb9, hb10, hb56, hb58]
          refine hK _ ?_
          obtain rfl := Option.some.inj h
          refine TrD.ret ?_
          refine Q5q (σ' := ⟨(updD (fun _ => .any) 4 (eB false)), hOfO [], 0, 142⟩) ?_ ?_
          · exact W2.canonV 0 [] _ _ hβ (W8 (by decide)) (by decide) (W3 (v_of (d0 := (eB false)) (by simp [hb9, hb10, hb56, hb58]) (J1 (by simp) (by simp [hb9, hb10, hb56, hb58]))) (Q2k _)) .nil
          · dsimp only [resD]
            refine endF ?_ ?_ <;> simp [Q4d]
      · rw [if_neg (Q04 hb56)] at h
        rcases Bool.eq_false_or_eq_true (!(r12.1 == r13.1)) with hb59 | hb59
        · rw [if_pos hb59] at h
          refine TrD.regK Q1s (fun K hK => ?_)
          simp [hb9, hb10, hb56, hb59]
          refine hK _ ?_
          refine TrD.cond (b := true) (by simp [hb9, hb10, hb56, hb59]) (fun hb => ?_) (fun hb => by cases hb)
          refine TrD.seq ?_
          rcases Bool.eq_false_or_eq_true (r12.2 == r13.2) with hb61 | hb61
          · rw [if_pos hb61] at h
            refine TrD.regK Q1s (fun K hK => ?_)
            simp [hb9, hb10, hb56, hb59, hb61]
            refine hK _ ?_
            obtain rfl := Option.some.inj h
            refine TrD.ret ?_
            refine Q5q (σ' := ⟨(updD (fun _ => .any) 4 (eB (r12.1 == r13.1))), hOfO [], 0, 142⟩) ?_ ?_
            · exact W2.canonV 0 [] _ _ hβ (W8 (by decide)) (by decide) (W3 (v_of (d0 := (eB (r12.1 == r13.1))) (by simp [hb9, hb10, hb56, hb59, hb61]) (J1 (by simp) (by simp [hb9, hb10, hb56, hb59, hb61]))) (Q2k _)) .nil
            · dsimp only [resD]
              refine endF ?_ ?_ <;> simp [Q4d]
          · rw [if_neg (Q04 hb61)] at h
            refine TrD.regK Q1s (fun K hK => ?_)
            simp [hb9, hb10, hb56, hb59, hb61]
            refine hK _ ?_
            obtain rfl := Option.some.inj h
            refine TrD.ret ?_
            refine Q5q (σ' := ⟨(updD (fun _ => .any) 4 (eB false)), hOfO [], 0, 142⟩) ?_ ?_
            · exact W2.canonV 0 [] _ _ hβ (W8 (by decide)) (by decide) (W3 (v_of (d0 := (eB false)) (by simp [hb9, hb10, hb56, hb59, hb61]) (J1 (by simp) (by simp [hb9, hb10, hb56, hb59, hb61]))) (Q2k _)) .nil
            · dsimp only [resD]
              refine endF ?_ ?_ <;> simp [Q4d]
        · rw [if_neg (Q04 hb59)] at h
          rcases Bool.eq_false_or_eq_true (!r12.2) with hb62 | hb62
          · rw [if_pos hb62] at h
            refine TrD.regK Q1s (fun K hK => ?_)
            simp [hb9, hb10, hb56, hb59, hb62]
            refine hK _ ?_
            refine TrD.cond (b := true) (by simp [hb9, hb10, hb56, hb59, hb62]) (fun hb => ?_) (fun hb => by cases hb)
            refine TrD.seq ?_
            rcases Bool.eq_false_or_eq_true (r12.2 == r13.2) with hb64 | hb64
            · rw [if_pos hb64] at h
              refine TrD.regK Q1s (fun K hK => ?_)
              simp [hb9, hb10, hb56, hb59, hb62, hb64]
              refine hK _ ?_
              obtain rfl := Option.some.inj h
              refine TrD.ret ?_
              refine Q5q (σ' := ⟨(updD (fun _ => .any) 4 (eB (r12.1 == r13.1))), hOfO [], 0, 142⟩) ?_ ?_
              · exact W2.canonV 0 [] _ _ hβ (W8 (by decide)) (by decide) (W3 (v_of (d0 := (eB (r12.1 == r13.1))) (by simp [hb9, hb10, hb56, hb59, hb62, hb64]) (J1 (by simp) (by simp [hb9, hb10, hb56, hb59, hb62, hb64]))) (Q2k _)) .nil
              · dsimp only [resD]
                refine endF ?_ ?_ <;> simp [Q4d]
            · rw [if_neg (Q04 hb64)] at h
              refine TrD.regK Q1s (fun K hK => ?_)
              simp [hb9, hb10, hb56, hb59, hb62, hb64]
              refine hK _ ?_
              obtain rfl := Option.some.inj h
              refine TrD.ret ?_
              refine Q5q (σ' := ⟨(updD (fun _ => .any) 4 (eB false)), hOfO [], 0, 142⟩) ?_ ?_
              · exact W2.canonV 0 [] _ _ hβ (W8 (by decide)) (by decide) (W3 (v_of (d0 := (eB false)) (by simp [hb9, hb10, hb56, hb59, hb62, hb64]) (J1 (by simp) (by simp [hb9, hb10, hb56, hb59, hb62, hb64]))) (Q2k _)) .nil
              · dsimp only [resD]
                refine endF ?_ ?_ <;> simp [Q4d]
          · rw [if_neg (Q04 hb62)] at h
            refine TrD.regK Q1s (fun K hK => ?_)
            simp [hb9, hb10, hb56, hb59, hb62]
            refine hK _ ?_
            refine TrD.cond (b := r12.1) (by simp [hb9, hb10, hb56, hb59, hb62]) (fun hb65 => ?_) (fun hb65 => ?_)
            · rw [if_pos hb65] at h
              refine TrD.seq ?_
              rcases Bool.eq_false_or_eq_true (r12.2 == r13.2) with hb67 | hb67
              · rw [if_pos hb67] at h
                refine TrD.regK Q1s (fun K hK => ?_)
                simp [hb9, hb10, hb56, hb59, hb62, hb65, hb67]
                refine hK _ ?_
                obtain rfl := Option.some.inj h
                refine TrD.ret ?_
                refine Q5q (σ' := ⟨(updD (fun _ => .any) 4 (eB (r12.1 == r13.1))), hOfO [], 0, 142⟩) ?_ ?_
                · exact W2.canonV 0 [] _ _ hβ (W8 (by decide)) (by decide) (W3 (v_of (d0 := (eB (r12.1 == r13.1))) (by simp [hb9, hb10, hb56, hb59, hb62, hb65, hb67]) (J1 (by simp) (by simp [hb9, hb10, hb56, hb59, hb62, hb65, hb67]))) (Q2k _)) .nil
                · dsimp only [resD]
                  refine endF ?_ ?_ <;> simp [Q4d]
              · rw [if_neg (Q04 hb67)] at h
                refine TrD.regK Q1s (fun K hK => ?_)
                simp [hb9, hb10, hb56, hb59, hb62, hb65, hb67]
                refine hK _ ?_
                obtain rfl := Option.some.inj h
                refine TrD.ret ?_
                refine Q5q (σ' := ⟨(updD (fun _ => .any) 4 (eB false)), hOfO [], 0, 142⟩) ?_ ?_
                · exact W2.canonV 0 [] _ _ hβ (W8 (by decide)) (by decide) (W3 (v_of (d0 := (eB false)) (by simp [hb9, hb10, hb56, hb59, hb62, hb65, hb67]) (J1 (by simp) (by simp [hb9, hb10, hb56, hb59, hb62, hb65, hb67]))) (Q2k _)) .nil
                · dsimp only [resD]
                  refine endF ?_ ?_ <;> simp [Q4d]
            · rw [if_neg (Q04 hb65)] at h
              refine TrD.skip ?_
              refine TrD.seq ?_
              obtain ⟨r68, hr68, h⟩ := bindE h
              refine TrD.regK Q1s (fun K hK => ?_)
              simp [hb9, hb10, hb56, hb59, hb62, hb65, show ieq 3 0 = false from rfl]
              refine Z9f (Z3h n r11.1 r11.2.1 (wadd .i64 1 (wrem (lenZ p1.length) 3)) _ hr68) (by simp [hb9, hb10, hb56, hb59, hb62, hb65, show ieq 3 0 = false from rfl]) (by simp) (fun q783 hq783 => ?_)
              subst hq783
              simp [hb9, hb10, hb56, hb59, hb62, hb65, show ieq 3 0 = false from rfl]
              refine hK _ ?_
              refine TrD.seq ?_
              refine TrD.seq ?_
              refine TrD.regK Q1s (fun K hK => ?_)
              simp [hb9, hb10, hb56, hb59, hb62, hb65, show ieq 3 0 = false from rfl]
              refine hK _ ?_
              obtain ⟨o659, g661, h⟩ := bindE h
              obtain ⟨E663, hE663⟩ : ∃ S : Unit → St, S = fun s670 => ⟨(fun _ => .any), hOfO [], 0, 142⟩ := ⟨_, rfl⟩
              refine TrD.joinQ E663 (fun z => o659 = Ctl.brk z) (fun _ _ hg h => TrD.ghost hg h) ?_ (fun s670 hz => ?_)
              · refine TrD.block ?_
                obtain ⟨S662, hS662⟩ : ∃ S : Nat → Unit → St, S = fun k666 s660 => ⟨(updD (updD (updD (updD (updD (updD (fun _ => .any) 5 (.slice 2 (List.map Z6 r11.1))) 6 (.ptr 2 0 0 0)) 7 (.ptr 9 1 0 0)) 8 (.ptr 9 2 0 0)) 13 (.slice 3 (List.map X3 r68.1))) 15 (eI (k666 : Int))), hOfO [some ⟨2, [(Z2 r11.2.1)], 0, 0x0019⟩, some ⟨9, [(Z8 r11.2.2.1)], 0, 0x0037⟩, some ⟨9, [(Z8 r11.2.2.2)], 0, 0x0037⟩], 3, 142⟩ := ⟨_, rfl⟩
                refine TrD.limS (sz := 3) (rows := List.map X3 r68.1) (Z59 (d := .slice 3 (List.map X3 r68.1)) 84 (by simp [hb9, hb10, hb56, hb59, hb62, hb65, show ieq 3 0 = false from rfl])) (fun hlim => ?_)
                rw [List.length_map] at hlim
                refine TrD.forL S662 g661 hlim ?_ (fun k666 x667 s660 k666_i k666_g k666_l k666_lt k666_w o668 g669 hret664 hbrk665 => ?_) (fun s660 s660_stop => ?_)
                · rw [hS662]
                  exact W2.canonV 0 [128, 136, 144] _ _ hβ (W8 (by decide)) (by decide) (W3 (v_of (d0 := (eI 0)) (by simp [hb9, hb10, hb56, hb59, hb62, hb65, show ieq 3 0 = false from rfl]) (J1 (by simp) (by simp [hb9, hb10, hb56, hb59, hb62, hb65, show ieq 3 0 = false from rfl]))) (W3 (v_of (d0 := (.slice 3 (List.map X3 r68.1))) (by simp [hb9, hb10, hb56, hb59, hb62, hb65, show ieq 3 0 = false from rfl]) (J1 (by simp) (by simp [hb9, hb10, hb56, hb59, hb62, hb65, show ieq 3 0 = false from rfl]))) (W3 (v_of (d0 := (.ptr 9 144 0 0)) (by simp [hb9, hb10, hb56, hb59, hb62, hb65, show ieq 3 0 = false from rfl]) (Q5u rfl)) (W3 (v_of (d0 := (.ptr 9 136 0 0)) (by simp [hb9, hb10, hb56, hb59, hb62, hb65, show ieq 3 0 = false from rfl]) (Q5u rfl)) (W3 (v_of (d0 := (.ptr 2 128 0 0)) (by simp [hb9, hb10, hb56, hb59, hb62, hb65, show ieq 3 0 = false from rfl]) (Q5u rfl)) (W3 (v_of (d0 := (.slice 2 (List.map Z6 r11.1))) (by simp [hb9, hb10, hb56, hb59, hb62, hb65, show ieq 3 0 = false from rfl]) (J1 (by simp) (by simp [hb9, hb10, hb56, hb59, hb62, hb65, show ieq 3 0 = false from rfl]))) (Q2k _))))))) (.cons (lv (L := ⟨2, [(Z2 r11.2.1)], 0, 0x0019⟩) (by simp [hb9, hb10, hb56, hb59, hb62, hb65, show ieq 3 0 = false from rfl]) rfl rfl (by simp [hb9, hb10, hb56, hb59, hb62, hb65, show ieq 3 0 = false from rfl]) (Q09 (by simp [hb9, hb10, hb56, hb59, hb62, hb65, show ieq 3 0 = false from rfl]) (by simp))) (.cons (lv (L := ⟨9, [(Z8 r11.2.2.1)], 0, 0x0037⟩) (by simp [hb9, hb10, hb56, hb59, hb62, hb65, show ieq 3 0 = false from rfl]) rfl rfl (by simp [hb9, hb10, hb56, hb59, hb62, hb65, show ieq 3 0 = false from rfl]) (Q09 (by simp [hb9, hb10, hb56, hb59, hb62, hb65, show ieq 3 0 = false from rfl]) (by simp))) (.cons (lv (L := ⟨9, [(Z8 r11.2.2.2)], 0, 0x0037⟩) (by simp [hb9, hb10, hb56, hb59, hb62, hb65, show ieq 3 0 = false from rfl]) rfl rfl (by simp [hb9, hb10, hb56, hb59, hb62, hb65, show ieq 3 0 = false from rfl]) (Q09 (by simp [hb9, hb10, hb56, hb59, hb62, hb65, show ieq 3 0 = false from rfl]) (by simp))) .nil)))
                · rw [congrFun (congrFun hS662 k666) s660]
                  refine TrD.seq ?_
                  refine TrD.seq ?_
                  refine TrD.regK Q1s (fun K hK => ?_)
                  simp [hb9, hb10, hb56, hb59, hb62, hb65, show ieq 3 0 = false from rfl, k666_lt, Q4 k666_i, Q5 k666_i, k666_g, k666_l, elt k666_g]
                  refine hK _ ?_
                  refine TrD.cond (b := true) (by simp [hb9, hb10, hb56, hb59, hb62, hb65, show ieq 3 0 = false from rfl, k666_lt, Q4 k666_i, Q5 k666_i, k666_g, k666_l, elt k666_g]) (fun hb => ?_) (fun hb => by cases hb)
                  refine TrD.skip ?_
                  obtain ⟨o726, g728, g669⟩ := bindE g669
                  obtain ⟨S727, hS727⟩ : ∃ S : Unit → St, S = fun s725 => ⟨(updD (updD (updD (updD (updD (updD (fun _ => .any) 5 (.slice 2 (List.map Z6 r11.1))) 6 (.ptr 2 0 0 0)) 7 (.ptr 9 1 0 0)) 8 (.ptr 9 2 0 0)) 13 (.slice 3 (List.map X3 r68.1))) 15 (eI (k666 : Int))), hOfO [some ⟨2, [(Z2 r11.2.1)], 0, 0x0019⟩, some ⟨9, [(Z8 r11.2.2.1)], 0, 0x0037⟩, some ⟨9, [(Z8 r11.2.2.2)], 0, 0x0037⟩], 3, 142⟩ := ⟨_, rfl⟩
                  refine TrD.join S727 (fun z => o726 = Ctl.brk z) ?_ (fun s725 hz => ?_)
                  · refine TrD.block ?_
                    refine TrD.seq ?_
                    refine TrD.ghost (σ' := ⟨(updD (updD (updD (updD (updD (updD (fun _ => .any) 5 (.slice 2 (List.map Z6 r11.1))) 6 (.ptr 2 0 0 0)) 7 (.ptr 9 1 0 0)) 8 (.ptr 9 2 0 0)) 13 (.slice 3 (List.map X3 r68.1))) 15 (eI (k666 : Int))), hOfO [some ⟨2, [(Z2 r11.2.1)], 0, 0x0019⟩, some ⟨9, [(Z8 r11.2.2.1)], 0, 0x0037⟩, some ⟨9, [(Z8 r11.2.2.2)], 0, 0x0037⟩], 3, 142⟩) ?_ ?_
                    · exact W2.canonV 0 [0, 1, 2] _ _ hβ (W8 (by decide)) (by decide) (W3 (v_of (d0 := (eI (k666 : Int))) (by simp [hb9, hb10, hb56, hb59, hb62, hb65, show ieq 3 0 = false from rfl, k666_lt, Q4 k666_i, Q5 k666_i, k666_g, k666_l, elt k666_g]) (J1 (by simp) (by simp [hb9, hb10, hb56, hb59, hb62, hb65, show ieq 3 0 = false from rfl, k666_lt, Q4 k666_i, Q5 k666_i, k666_g, k666_l, elt k666_g]))) (W3 (v_of (d0 := (.slice 3 (List.map X3 r68.1))) (by simp [hb9, hb10, hb56, hb59, hb62, hb65, show ieq 3 0 = false from rfl, k666_lt, Q4 k666_i, Q5 k666_i, k666_g, k666_l, elt k666_g]) (J1 (by simp) (by simp [hb9, hb10, hb56, hb59, hb62, hb65, show ieq 3 0 = false from rfl, k666_lt, Q4 k666_i, Q5 k666_i, k666_g, k666_l, elt k666_g]))) (W3 (v_of (d0 := (.ptr 9 2 0 0)) (by simp [hb9, hb10, hb56, hb59, hb62, hb65, show ieq 3 0 = false from rfl, k666_lt, Q4 k666_i, Q5 k666_i, k666_g, k666_l, elt k666_g]) (Q5u rfl)) (W3 (v_of (d0 := (.ptr 9 1 0 0)) (by simp [hb9, hb10, hb56, hb59, hb62, hb65, show ieq 3 0 = false from rfl, k666_lt, Q4 k666_i, Q5 k666_i, k666_g, k666_l, elt k666_g]) (Q5u rfl)) (W3 (v_of (d0 := (.ptr 2 0 0 0)) (by simp [hb9, hb10, hb56, hb59, hb62, hb65, show ieq 3 0 = false from rfl, k666_lt, Q4 k666_i, Q5 k666_i, k666_g, k666_l, elt k666_g]) (Q5u rfl)) (W3 (v_of (d0 := (.slice 2 (List.map Z6 r11.1))) (by simp [hb9, hb10, hb56, hb59, hb62, hb65, show ieq 3 0 = false from rfl, k666_lt, Q4 k666_i, Q5 k666_i, k666_g, k666_l, elt k666_g]) (J1 (by simp) (by simp [hb9, hb10, hb56, hb59, hb62, hb65, show ieq 3 0 = false from rfl, k666_lt, Q4 k666_i, Q5 k666_i, k666_g, k666_l, elt k666_g]))) (Q2k _))))))) (.cons (lv (L := ⟨2, [(Z2 r11.2.1)], 0, 0x0019⟩) (by simp [hb9, hb10, hb56, hb59, hb62, hb65, show ieq 3 0 = false from rfl, k666_lt, Q4 k666_i, Q5 k666_i, k666_g, k666_l, elt k666_g]) rfl rfl (by simp [hb9, hb10, hb56, hb59, hb62, hb65, show ieq 3 0 = false from rfl, k666_lt, Q4 k666_i, Q5 k666_i, k666_g, k666_l, elt k666_g]) (Q09 (by simp [hb9, hb10, hb56, hb59, hb62, hb65, show ieq 3 0 = false from rfl, k666_lt, Q4 k666_i, Q5 k666_i, k666_g, k666_l, elt k666_g]) (by simp))) (.cons (lv (L := ⟨9, [(Z8 r11.2.2.1)], 0, 0x0037⟩) (by simp [hb9, hb10, hb56, hb59, hb62, hb65, show ieq 3 0 = false from rfl, k666_lt, Q4 k666_i, Q5 k666_i, k666_g, k666_l, elt k666_g]) rfl rfl (by simp [hb9, hb10, hb56, hb59, hb62, hb65, show ieq 3 0 = false from rfl, k666_lt, Q4 k666_i, Q5 k666_i, k666_g, k666_l, elt k666_g]) (Q09 (by simp [hb9, hb10, hb56, hb59, hb62, hb65, show ieq 3 0 = false from rfl, k666_lt, Q4 k666_i, Q5 k666_i, k666_g, k666_l, elt k666_g]) (by simp))) (.cons (lv (L := ⟨9, [(Z8 r11.2.2.2)], 0, 0x0037⟩) (by simp [hb9, hb10, hb56, hb59, hb62, hb65, show ieq 3 0 = false from rfl, k666_lt, Q4 k666_i, Q5 k666_i, k666_g, k666_l, elt k666_g]) rfl rfl (by simp [hb9, hb10, hb56, hb59, hb62, hb65, show ieq 3 0 = false from rfl, k666_lt, Q4 k666_i, Q5 k666_i, k666_g, k666_l, elt k666_g]) (Q09 (by simp [hb9, hb10, hb56, hb59, hb62, hb65, show ieq 3 0 = false from rfl, k666_lt, Q4 k666_i, Q5 k666_i, k666_g, k666_l, elt k666_g]) (by simp))) .nil)))
                    obtain ⟨r729, hr729, g728⟩ := bindE g728
                    refine TrD.draw Q1s X79 [0, 1, 2, 3, 5, 6, 7, 8, 4, 9, 10, 11, 12, 13, 14, 15, 16] [0, 1, 2] [] (by rfl) rfl (fun K hK => ?_)
                    simp [hb9, hb10, hb56, hb59, hb62, hb65, show ieq 3 0 = false from rfl, k666_lt, Q4 k666_i, Q5 k666_i, k666_g, k666_l, elt k666_g]
                    refine W24 (.cons (.same _ _) (.cons (.same _ _) (.cons (.sl _ _ _ _ _ (by simp; rfl) rfl (by simp [hb9, hb10, hb56, hb59, hb62, hb65, show ieq 3 0 = false from rfl, k666_lt, Q4 k666_i, Q5 k666_i, k666_g, k666_l, elt k666_g]) (by simp)) (.cons (.same _ _) (.nil _))))) (Q86 n r11.1 r11.2.1 [r11.2.2.1, r11.2.2.2] x667 _ hr729) (by simp [hb9, hb10, hb56, hb59, hb62, hb65, show ieq 3 0 = false from rfl, k666_lt, Q4 k666_i, Q5 k666_i, k666_g, k666_l, elt k666_g]) (by simp) (fun q782 hq782 => ?_)
                    subst hq782
                    simp [hb9, hb10, hb56, hb59, hb62, hb65, show ieq 3 0 = false from rfl, k666_lt, Q4 k666_i, Q5 k666_i, k666_g, k666_l, elt k666_g]
                    refine hK _ ?_
                    refine TrD.seq ?_
                    refine TrD.ghost (σ' := ⟨(updD (updD (updD (updD (updD (updD (updD (updD (fun _ => .any) 5 (.slice 2 (List.map Z6 r11.1))) 6 (.ptr 2 0 0 0)) 7 (.ptr 9 1 0 0)) 8 (.ptr 9 2 0 0)) 13 (.slice 3 (List.map X3 r68.1))) 15 (eI (k666 : Int))) 16 (eI r729.1)) 17 (.slice 4 (List.map Q0q r729.2.1))), hOfO [some ⟨2, [(Z2 r11.2.1)], 0, 0x0019⟩, some ⟨9, [(Z8 r11.2.2.1)], 0, 0x0037⟩, some ⟨9, [(Z8 r11.2.2.2)], 0, 0x0037⟩], 3, 142⟩) ?_ ?_
                    · exact W2.canonV 0 [0, 1, 2] _ _ hβ (W8 (by decide)) (by decide) (W3 (v_of (d0 := (.slice 4 (List.map Q0q r729.2.1))) (by simp [hb9, hb10, hb56, hb59, hb62, hb65, show ieq 3 0 = false from rfl, k666_lt, Q4 k666_i, Q5 k666_i, k666_g, k666_l, elt k666_g]) (J1 (by simp) (by simp [hb9, hb10, hb56, hb59, hb62, hb65, show ieq 3 0 = false from rfl, k666_lt, Q4 k666_i, Q5 k666_i, k666_g, k666_l, elt k666_g]))) (W3 (v_of (d0 := (eI r729.1)) (by simp [hb9, hb10, hb56, hb59, hb62, hb65, show ieq 3 0 = false from rfl, k666_lt, Q4 k666_i, Q5 k666_i, k666_g, k666_l, elt k666_g]) (J1 (by simp) (by simp [hb9, hb10, hb56, hb59, hb62, hb65, show ieq 3 0 = false from rfl, k666_lt, Q4 k666_i, Q5 k666_i, k666_g, k666_l, elt k666_g]))) (W3 (v_of (d0 := (eI (k666 : Int))) (by simp [hb9, hb10, hb56, hb59, hb62, hb65, show ieq 3 0 = false from rfl, k666_lt, Q4 k666_i, Q5 k666_i, k666_g, k666_l, elt k666_g]) (J1 (by simp) (by simp [hb9, hb10, hb56, hb59, hb62, hb65, show ieq 3 0 = false from rfl, k666_lt, Q4 k666_i, Q5 k666_i, k666_g, k666_l, elt k666_g]))) (W3 (v_of (d0 := (.slice 3 (List.map X3 r68.1))) (by simp [hb9, hb10, hb56, hb59, hb62, hb65, show ieq 3 0 = false from rfl, k666_lt, Q4 k666_i, Q5 k666_i, k666_g, k666_l, elt k666_g]) (J1 (by simp) (by simp [hb9, hb10, hb56, hb59, hb62, hb65, show ieq 3 0 = false from rfl, k666_lt, Q4 k666_i, Q5 k666_i, k666_g, k666_l, elt k666_g]))) (W3 (v_of (d0 := (.ptr 9 2 0 0)) (by simp [hb9, hb10, hb56, hb59, hb62, hb65, show ieq 3 0 = false from rfl, k666_lt, Q4 k666_i, Q5 k666_i, k666_g, k666_l, elt k666_g]) (Q5u rfl)) (W3 (v_of (d0 := (.ptr 9 1 0 0)) (by simp [hb9, hb10, hb56, hb59, hb62, hb65, show ieq 3 0 = false from rfl, k666_lt, Q4 k666_i, Q5 k666_i, k666_g, k666_l, elt k666_g]) (Q5u rfl)) (W3 (v_of (d0 := (.ptr 2 0 0 0)) (by simp [hb9, hb10, hb56, hb59, hb62, hb65, show ieq 3 0 = false from rfl, k666_lt, Q4 k666_i, Q5 k666_i, k666_g, k666_l, elt k666_g]) (Q5u rfl)) (W3 (v_of (d0 := (.slice 2 (List.map Z6 r11.1))) (by simp [hb9, hb10, hb56, hb59, hb62, hb65, show ieq 3 0 = false from rfl, k666_lt, Q4 k666_i, Q5 k666_i, k666_g, k666_l, elt k666_g]) (J1 (by simp) (by simp [hb9, hb10, hb56, hb59, hb62, hb65, show ieq 3 0 = false from rfl, k666_lt, Q4 k666_i, Q5 k666_i, k666_g, k666_l, elt k666_g]))) (Q2k _))))))))) (.cons (lv (L := ⟨2, [(Z2 r11.2.1)], 0, 0x0019⟩) (by simp [hb9, hb10, hb56, hb59, hb62, hb65, show ieq 3 0 = false from rfl, k666_lt, Q4 k666_i, Q5 k666_i, k666_g, k666_l, elt k666_g]) rfl rfl (by simp [hb9, hb10, hb56, hb59, hb62, hb65, show ieq 3 0 = false from rfl, k666_lt, Q4 k666_i, Q5 k666_i, k666_g, k666_l, elt k666_g]) (Q09 (by simp [hb9, hb10, hb56, hb59, hb62, hb65, show ieq 3 0 = false from rfl, k666_lt, Q4 k666_i, Q5 k666_i, k666_g, k666_l, elt k666_g]) (by simp))) (.cons (lv (L := ⟨9, [(Z8 r11.2.2.1)], 0, 0x0037⟩) (by simp [hb9, hb10, hb56, hb59, hb62, hb65, show ieq 3 0 = false from rfl, k666_lt, Q4 k666_i, Q5 k666_i, k666_g, k666_l, elt k666_g]) rfl rfl (by simp [hb9, hb10, hb56, hb59, hb62, hb65, show ieq 3 0 = false from rfl, k666_lt, Q4 k666_i, Q5 k666_i, k666_g, k666_l, elt k666_g]) (Q09 (by simp [hb9, hb10, hb56, hb59, hb62, hb65, show ieq 3 0 = false from rfl, k666_lt, Q4 k666_i, Q5 k666_i, k666_g, k666_l, elt k666_g]) (by simp))) (.cons (lv (L := ⟨9, [(Z8 r11.2.2.2)], 0, 0x0037⟩) (by simp [hb9, hb10, hb56, hb59, hb62, hb65, show ieq 3 0 = false from rfl, k666_lt, Q4 k666_i, Q5 k666_i, k666_g, k666_l, elt k666_g]) rfl rfl (by simp [hb9, hb10, hb56, hb59, hb62, hb65, show ieq 3 0 = false from rfl, k666_lt, Q4 k666_i, Q5 k666_i, k666_g, k666_l, elt k666_g]) (Q09 (by simp [hb9, hb10, hb56, hb59, hb62, hb65, show ieq 3 0 = false from rfl, k666_lt, Q4 k666_i, Q5 k666_i, k666_g, k666_l, elt k666_g]) (by simp))) .nil)))
                    obtain ⟨r730, hr730, g728⟩ := bindE g728
                    refine TrD.draw Q1s X79 [0, 1, 2, 3, 5, 6, 7, 8, 4, 9, 10, 11, 12, 13, 14, 15, 16] [0, 1, 2] [] (by rfl) rfl (fun K hK => ?_)
                    simp [hb9, hb10, hb56, hb59, hb62, hb65, show ieq 3 0 = false from rfl, k666_lt, Q4 k666_i, Q5 k666_i, k666_g, k666_l, elt k666_g]
                    refine W24 (.cons (.same _ _) (.cons (.same _ _) (.cons (.sl _ _ _ _ _ (by simp; rfl) rfl (by simp [hb9, hb10, hb56, hb59, hb62, hb65, show ieq 3 0 = false from rfl, k666_lt, Q4 k666_i, Q5 k666_i, k666_g, k666_l, elt k666_g]) (by simp)) (.cons (.same _ _) (.nil _))))) (Q86 n r11.1 r11.2.1 [r11.2.2.2, r11.2.2.1] x667 _ hr730) (by simp [hb9, hb10, hb56, hb59, hb62, hb65, show ieq 3 0 = false from rfl, k666_lt, Q4 k666_i, Q5 k666_i, k666_g, k666_l, elt k666_g]) (by simp) (fun q781 hq781 => ?_)
                    subst hq781
                    simp [hb9, hb10, hb56, hb59, hb62, hb65, show ieq 3 0 = false from rfl, k666_lt, Q4 k666_i, Q5 k666_i, k666_g, k666_l, elt k666_g]
                    refine hK _ ?_
                    refine TrD.seq ?_
                    rcases Bool.eq_false_or_eq_true (ile 0 r729.1) with hb763 | hb763
                    · rw [if_pos hb763] at g728
                      rcases Bool.eq_false_or_eq_true (!ieq r729.1 (wsub .i64 1 r730.1)) with hb764 | hb764
                      · rw [if_pos hb764] at g728
                        refine TrD.regK Q1s (fun K hK => ?_)
                        simp [hb9, hb10, hb56, hb59, hb62, hb65, show ieq 3 0 = false from rfl, k666_lt, Q4 k666_i, Q5 k666_i, k666_g, k666_l, elt k666_g, hb763, hb764]
                        refine hK _ ?_
                        refine TrD.cond (b := true) (by simp [hb9, hb10, hb56, hb59, hb62, hb65, show ieq 3 0 = false from rfl, k666_lt, Q4 k666_i, Q5 k666_i, k666_g, k666_l, elt k666_g, hb763, hb764]) (fun hb => ?_) (fun hb => by cases hb)
                        refine TrD.seq ?_
                        refine TrD.regK Q1s (fun K hK => ?_)
                        simp [hb9, hb10, hb56, hb59, hb62, hb65, show ieq 3 0 = false from rfl, k666_lt, Q4 k666_i, Q5 k666_i, k666_g, k666_l, elt k666_g, hb763, hb764]
                        refine hK _ ?_
                        obtain rfl := Option.some.inj g728
                        obtain rfl := Option.some.inj g669
                        obtain rfl := hret664 _ rfl
                        obtain rfl := Option.some.inj h
                        refine TrD.ret ?_
                        refine Q5q (σ' := ⟨(updD (fun _ => .any) 4 (eB false)), hOfO [], 0, 142⟩) ?_ ?_
                        · exact W2.canonV 0 [] _ _ hβ (W8 (by decide)) (by decide) (W3 (v_of (d0 := (eB false)) (by simp [hb9, hb10, hb56, hb59, hb62, hb65, show ieq 3 0 = false from rfl, k666_lt, Q4 k666_i, Q5 k666_i, k666_g, k666_l, elt k666_g, hb763, hb764]) (J1 (by simp) (by simp [hb9, hb10, hb56, hb59, hb62, hb65, show ieq 3 0 = false from rfl, k666_lt, Q4 k666_i, Q5 k666_i, k666_g, k666_l, elt k666_g, hb763, hb764]))) (Q2k _)) .nil
                        · dsimp only [resD]
                          refine endF ?_ ?_ <;> simp [Q4d]
                      · rw [if_neg (Q04 hb764)] at g728
                        rcases Bool.eq_false_or_eq_true (ilt r729.1 0) with hb765 | hb765
                        · rw [if_pos hb765] at g728
                          rcases Bool.eq_false_or_eq_true (ile 0 r730.1) with hb766 | hb766
                          · rw [if_pos hb766] at g728
                            refine TrD.regK Q1s (fun K hK => ?_)
                            simp [hb9, hb10, hb56, hb59, hb62, hb65, show ieq 3 0 = false from rfl, k666_lt, Q4 k666_i, Q5 k666_i, k666_g, k666_l, elt k666_g, hb763, hb764, hb765, hb766]
                            refine hK _ ?_
                            refine TrD.cond (b := true) (by simp [hb9, hb10, hb56, hb59, hb62, hb65, show ieq 3 0 = false from rfl, k666_lt, Q4 k666_i, Q5 k666_i, k666_g, k666_l, elt k666_g, hb763, hb764, hb765, hb766]) (fun hb => ?_) (fun hb => by cases hb)
                            refine TrD.seq ?_
                            refine TrD.regK Q1s (fun K hK => ?_)
                            simp [hb9, hb10, hb56, hb59, hb62, hb65, show ieq 3 0 = false from rfl, k666_lt, Q4 k666_i, Q5 k666_i, k666_g, k666_l, elt k666_g, hb763, hb764, hb765, hb766]
                            refine hK _ ?_
                            obtain rfl := Option.some.inj g728
                            obtain rfl := Option.some.inj g669
                            obtain rfl := hret664 _ rfl
                            obtain rfl := Option.some.inj h
                            refine TrD.ret ?_
                            refine Q5q (σ' := ⟨(updD (fun _ => .any) 4 (eB false)), hOfO [], 0, 142⟩) ?_ ?_
                            · exact W2.canonV 0 [] _ _ hβ (W8 (by decide)) (by decide) (W3 (v_of (d0 := (eB false)) (by simp [hb9, hb10, hb56, hb59, hb62, hb65, show ieq 3 0 = false from rfl, k666_lt, Q4 k666_i, Q5 k666_i, k666_g, k666_l, elt k666_g, hb763, hb764, hb765, hb766]) (J1 (by simp) (by simp [hb9, hb10, hb56, hb59, hb62, hb65, show ieq 3 0 = false from rfl, k666_lt, Q4 k666_i, Q5 k666_i, k666_g, k666_l, elt k666_g, hb763, hb764, hb765, hb766]))) (Q2k _)) .nil
                            · dsimp only [resD]
                              refine endF ?_ ?_ <;> simp [Q4d]
                          · rw [if_neg (Q04 hb766)] at g728
                            obtain ⟨r767, hr767, g728⟩ := bindE g728
                            refine TrD.regK Q1s (fun K hK => ?_)
                            simp [hb9, hb10, hb56, hb59, hb62, hb65, show ieq 3 0 = false from rfl, k666_lt, Q4 k666_i, Q5 k666_i, k666_g, k666_l, elt k666_g, hb763, hb764, hb765, hb766]
                            refine Z9f (Q62 n r729.2.1 r730.2.1 _ hr767) (by simp [hb9, hb10, hb56, hb59, hb62, hb65, show ieq 3 0 = false from rfl, k666_lt, Q4 k666_i, Q5 k666_i, k666_g, k666_l, elt k666_g, hb763, hb764, hb765, hb766]) (by simp) (fun q769 hq769 => ?_)
                            subst hq769
                            simp [hb9, hb10, hb56, hb59, hb62, hb65, show ieq 3 0 = false from rfl, k666_lt, Q4 k666_i, Q5 k666_i, k666_g, k666_l, elt k666_g, hb763, hb764, hb765, hb766]
                            refine hK _ ?_
                            refine TrD.cond (b := (!r767)) (by simp [hb9, hb10, hb56, hb59, hb62, hb65, show ieq 3 0 = false from rfl, k666_lt, Q4 k666_i, Q5 k666_i, k666_g, k666_l, elt k666_g, hb763, hb764, hb765, hb766]) (fun hb768 => ?_) (fun hb768 => ?_)
                            · rw [if_pos hb768] at g728
                              refine TrD.seq ?_
                              refine TrD.regK Q1s (fun K hK => ?_)
                              simp [hb9, hb10, hb56, hb59, hb62, hb65, show ieq 3 0 = false from rfl, k666_lt, Q4 k666_i, Q5 k666_i, k666_g, k666_l, elt k666_g, hb763, hb764, hb765, hb766, hb768]
                              refine hK _ ?_
                              obtain rfl := Option.some.inj g728
                              obtain rfl := Option.some.inj g669
                              obtain rfl := hret664 _ rfl
                              obtain rfl := Option.some.inj h
                              refine TrD.ret ?_
                              refine Q5q (σ' := ⟨(updD (fun _ => .any) 4 (eB false)), hOfO [], 0, 142⟩) ?_ ?_
                              · exact W2.canonV 0 [] _ _ hβ (W8 (by decide)) (by decide) (W3 (v_of (d0 := (eB false)) (by simp [hb9, hb10, hb56, hb59, hb62, hb65, show ieq 3 0 = false from rfl, k666_lt, Q4 k666_i, Q5 k666_i, k666_g, k666_l, elt k666_g, hb763, hb764, hb765, hb766, hb768]) (J1 (by simp) (by simp [hb9, hb10, hb56, hb59, hb62, hb65, show ieq 3 0 = false from rfl, k666_lt, Q4 k666_i, Q5 k666_i, k666_g, k666_l, elt k666_g, hb763, hb764, hb765, hb766, hb768]))) (Q2k _)) .nil
                              · dsimp only [resD]
                                refine endF ?_ ?_ <;> simp [Q4d]
                            · rw [if_neg (Q04 hb768)] at g728
                              refine TrD.skip ?_
                              obtain rfl := Option.some.inj g728
                              refine Q8b.mk () rfl ?_
                              rw [hS727]
                              exact W2.canonV 0 [0, 1, 2] _ _ hβ (W8 (by decide)) (by decide) (W3 (v_of (d0 := (eI (k666 : Int))) (by simp [hb9, hb10, hb56, hb59, hb62, hb65, show ieq 3 0 = false from rfl, k666_lt, Q4 k666_i, Q5 k666_i, k666_g, k666_l, elt k666_g, hb763, hb764, hb765, hb766, hb768]) (J1 (by simp) (by simp [hb9, hb10, hb56, hb59, hb62, hb65, show ieq 3 0 = false from rfl, k666_lt, Q4 k666_i, Q5 k666_i, k666_g, k666_l, elt k666_g, hb763, hb764, hb765, hb766, hb768]))) (W3 (v_of (d0 := (.slice 3 (List.map X3 r68.1))) (by simp [hb9, hb10, hb56, hb59, hb62, hb65, show ieq 3 0 = false from rfl, k666_lt, Q4 k666_i, Q5 k666_i, k666_g, k666_l, elt k666_g, hb763, hb764, hb765, hb766, hb768]) (J1 (by simp) (by simp [hb9, hb10, hb56, hb59, hb62, hb65, show ieq 3 0 = false from rfl, k666_lt, Q4 k666_i, Q5 k666_i, k666_g, k666_l, elt k666_g, hb763, hb764, hb765, hb766, hb768]))) (W3 (v_of (d0 := (.ptr 9 2 0 0)) (by simp [hb9, hb10, hb56, hb59, hb62, hb65, show ieq 3 0 = false from rfl, k666_lt, Q4 k666_i, Q5 k666_i, k666_g, k666_l, elt k666_g, hb763, hb764, hb765, hb766, hb768]) (Q5u rfl)) (W3 (v_of (d0 := (.ptr 9 1 0 0)) (by simp [hb9, hb10, hb56, hb59, hb62, hb65, show ieq 3 0 = false from rfl, k666_lt, Q4 k666_i, Q5 k666_i, k666_g, k666_l, elt k666_g, hb763, hb764, hb765, hb766, hb768]) (Q5u rfl)) (W3 (v_of (d0 := (.ptr 2 0 0 0)) (by simp [hb9, hb10, hb56, hb59, hb62, hb65, show ieq 3 0 = false from rfl, k666_lt, Q4 k666_i, Q5 k666_i, k666_g, k666_l, elt k666_g, hb763, hb764, hb765, hb766, hb768]) (Q5u rfl)) (W3 (v_of (d0 := (.slice 2 (List.map Z6 r11.1))) (by simp [hb9, hb10, hb56, hb59, hb62, hb65, show ieq 3 0 = false from rfl, k666_lt, Q4 k666_i, Q5 k666_i, k666_g, k666_l, elt k666_g, hb763, hb764, hb765, hb766, hb768]) (J1 (by simp) (by simp [hb9, hb10, hb56, hb59, hb62, hb65, show ieq 3 0 = false from rfl, k666_lt, Q4 k666_i, Q5 k666_i, k666_g, k666_l, elt k666_g, hb763, hb764, hb765, hb766, hb768]))) (Q2k _))))))) (.cons (lv (L := ⟨2, [(Z2 r11.2.1)], 0, 0x0019⟩) (by simp [hb9, hb10, hb56, hb59, hb62, hb65, show ieq 3 0 = false from rfl, k666_lt, Q4 k666_i, Q5 k666_i, k666_g, k666_l, elt k666_g, hb763, hb764, hb765, hb766, hb768]) rfl rfl (by simp [hb9, hb10, hb56, hb59, hb62, hb65, show ieq 3 0 = false from rfl, k666_lt, Q4 k666_i, Q5 k666_i, k666_g, k666_l, elt k666_g, hb763, hb764, hb765, hb766, hb768]) (Q09 (by simp [hb9, hb10, hb56, hb59, hb62, hb65, show ieq 3 0 = false from rfl, k666_lt, Q4 k666_i, Q5 k666_i, k666_g, k666_l, elt k666_g, hb763, hb764, hb765, hb766, hb768]) (by simp))) (.cons (lv (L := ⟨9, [(Z8 r11.2.2.1)], 0, 0x0037⟩) (by simp [hb9, hb10, hb56, hb59, hb62, hb65, show ieq 3 0 = false from rfl, k666_lt, Q4 k666_i, Q5 k666_i, k666_g, k666_l, elt k666_g, hb763, hb764, hb765, hb766, hb768]) rfl rfl (by simp [hb9, hb10, hb56, hb59, hb62, hb65, show ieq 3 0 = false from rfl, k666_lt, Q4 k666_i, Q5 k666_i, k666_g, k666_l, elt k666_g, hb763, hb764, hb765, hb766, hb768]) (Q09 (by simp [hb9, hb10, hb56, hb59, hb62, hb65, show ieq 3 0 = false from rfl, k666_lt, Q4 k666_i, Q5 k666_i, k666_g, k666_l, elt k666_g, hb763, hb764, hb765, hb766, hb768]) (by simp))) (.cons (lv (L := ⟨9, [(Z8 r11.2.2.2)], 0, 0x0037⟩) (by simp [hb9, hb10, hb56, hb59, hb62, hb65, show ieq 3 0 = false from rfl, k666_lt, Q4 k666_i, Q5 k666_i, k666_g, k666_l, elt k666_g, hb763, hb764, hb765, hb766, hb768]) rfl rfl (by simp [hb9, hb10, hb56, hb59, hb62, hb65, show ieq 3 0 = false from rfl, k666_lt, Q4 k666_i, Q5 k666_i, k666_g, k666_l, elt k666_g, hb763, hb764, hb765, hb766, hb768]) (Q09 (by simp [hb9, hb10, hb56, hb59, hb62, hb65, show ieq 3 0 = false from rfl, k666_lt, Q4 k666_i, Q5 k666_i, k666_g, k666_l, elt k666_g, hb763, hb764, hb765, hb766, hb768]) (by simp))) .nil)))
                        · rw [if_neg (Q04 hb765)] at g728
                          obtain ⟨r770, hr770, g728⟩ := bindE g728
                          refine TrD.regK Q1s (fun K hK => ?_)
                          simp [hb9, hb10, hb56, hb59, hb62, hb65, show ieq 3 0 = false from rfl, k666_lt, Q4 k666_i, Q5 k666_i, k666_g, k666_l, elt k666_g, hb763, hb764, hb765]
                          refine Z9f (Q62 n r729.2.1 r730.2.1 _ hr770) (by simp [hb9, hb10, hb56, hb59, hb62, hb65, show ieq 3 0 = false from rfl, k666_lt, Q4 k666_i, Q5 k666_i, k666_g, k666_l, elt k666_g, hb763, hb764, hb765]) (by simp) (fun q772 hq772 => ?_)
                          subst hq772
                          simp [hb9, hb10, hb56, hb59, hb62, hb65, show ieq 3 0 = false from rfl, k666_lt, Q4 k666_i, Q5 k666_i, k666_g, k666_l, elt k666_g, hb763, hb764, hb765]
                          refine hK _ ?_
                          refine TrD.cond (b := (!r770)) (by simp [hb9, hb10, hb56, hb59, hb62, hb65, show ieq 3 0 = false from rfl, k666_lt, Q4 k666_i, Q5 k666_i, k666_g, k666_l, elt k666_g, hb763, hb764, hb765]) (fun hb771 => ?_) (fun hb771 => ?_)
                          · rw [if_pos hb771] at g728
                            refine TrD.seq ?_
                            refine TrD.regK Q1s (fun K hK => ?_)
                            simp [hb9, hb10, hb56, hb59, hb62, hb65, show ieq 3 0 = false from rfl, k666_lt, Q4 k666_i, Q5 k666_i, k666_g, k666_l, elt k666_g, hb763, hb764, hb765, hb771]
                            refine hK _ ?_
                            obtain rfl := Option.some.inj g728
                            obtain rfl := Option.some.inj g669
                            obtain rfl := hret664 _ rfl
                            obtain rfl := Option.some.inj h
                            refine TrD.ret ?_
                            refine Q5q (σ' := ⟨(updD (fun _ => .any) 4 (eB false)), hOfO [], 0, 142⟩) ?_ ?_
                            · exact W2.canonV 0 [] _ _ hβ (W8 (by decide)) (by decide) (W3 (v_of (d0 := (eB false)) (by simp [hb9, hb10, hb56, hb59, hb62, hb65, show ieq 3 0 = false from rfl, k666_lt, Q4 k666_i, Q5 k666_i, k666_g, k666_l, elt k666_g, hb763, hb764, hb765, hb771]) (J1 (by simp) (by simp [hb9, hb10, hb56, hb59, hb62, hb65, show ieq 3 0 = false from rfl, k666_lt, Q4 k666_i, Q5 k666_i, k666_g, k666_l, elt k666_g, hb763, hb764, hb765, hb771]))) (Q2k _)) .nil
                            · dsimp only [resD]
                              refine endF ?_ ?_ <;> simp [Q4d]
                          · rw [if_neg (Q04 hb771)] at g728
                            refine TrD.skip ?_
                            obtain rfl := Option.some.inj g728
                            refine Q8b.mk () rfl ?_
                            rw [hS727]
                            exact W2.canonV 0 [0, 1, 2] _ _ hβ (W8 (by decide)) (by decide) (W3 (v_of (d0 := (eI (k666 : Int))) (by simp [hb9, hb10, hb56, hb59, hb62, hb65, show ieq 3 0 = false from rfl, k666_lt, Q4 k666_i, Q5 k666_i, k666_g, k666_l, elt k666_g, hb763, hb764, hb765, hb771]) (J1 (by simp) (by simp [hb9, hb10, hb56, hb59, hb62, hb65, show ieq 3 0 = false from rfl, k666_lt, Q4 k666_i, Q5 k666_i, k666_g, k666_l, elt k666_g, hb763, hb764, hb765, hb771]))) (W3 (v_of (d0 := (.slice 3 (List.map X3 r68.1))) (by simp [hb9, hb10, hb56, hb59, hb62, hb65, show ieq 3 0 = false from rfl, k666_lt, Q4 k666_i, Q5 k666_i, k666_g, k666_l, elt k666_g, hb763, hb764, hb765, hb771]) (J1 (by simp) (by simp [hb9, hb10, hb56, hb59, hb62, hb65, show ieq 3 0 = false from rfl, k666_lt, Q4 k666_i, Q5 k666_i, k666_g, k666_l, elt k666_g, hb763, hb764, hb765, hb771]))) (W3 (v_of (d0 := (.ptr 9 2 0 0)) (by simp [hb9, hb10, hb56, hb59, hb62, hb65, show ieq 3 0 = false from rfl, k666_lt, Q4 k666_i, Q5 k666_i, k666_g, k666_l, elt k666_g, hb763, hb764, hb765, hb771]) (Q5u rfl)) (W3 (v_of (d0 := (.ptr 9 1 0 0)) (by simp [hb9, hb10, hb56, hb59, hb62, hb65, show ieq 3 0 = false from rfl, k666_lt, Q4 k666_i, Q5 k666_i, k666_g, k666_l, elt k666_g, hb763, hb764, hb765, hb771]) (Q5u rfl)) (W3 (v_of (d0 := (.ptr 2 0 0 0)) (by simp [hb9, hb10, hb56, hb59, hb62, hb65, show ieq 3 0 = false from rfl, k666_lt, Q4 k666_i, Q5 k666_i, k666_g, k666_l, elt k666_g, hb763, hb764, hb765, hb771]) (Q5u rfl)) (W3 (v_of (d0 := (.slice 2 (List.map Z6 r11.1))) (by simp [hb9, hb10, hb56, hb59, hb62, hb65, show ieq 3 0 = false from rfl, k666_lt, Q4 k666_i, Q5 k666_i, k666_g, k666_l, elt k666_g, hb763, hb764, hb765, hb771]) (J1 (by simp) (by simp [hb9, hb10, hb56, hb59, hb62, hb65, show ieq 3 0 = false from rfl, k666_lt, Q4 k666_i, Q5 k666_i, k666_g, k666_l, elt k666_g, hb763, hb764, hb765, hb771]))) (Q2k _))))))) (.cons (lv (L := ⟨2, [(Z2 r11.2.1)], 0, 0x0019⟩) (by simp [hb9, hb10, hb56, hb59, hb62, hb65, show ieq 3 0 = false from rfl, k666_lt, Q4 k666_i, Q5 k666_i, k666_g, k666_l, elt k666_g, hb763, hb764, hb765, hb771]) rfl rfl (by simp [hb9, hb10, hb56, hb59, hb62, hb65, show ieq 3 0 = false from rfl, k666_lt, Q4 k666_i, Q5 k666_i, k666_g, k666_l, elt k666_g, hb763, hb764, hb765, hb771]) (Q09 (by simp [hb9, hb10, hb56, hb59, hb62, hb65, show ieq 3 0 = false from rfl, k666_lt, Q4 k666_i, Q5 k666_i, k666_g, k666_l, elt k666_g, hb763, hb764, hb765, hb771]) (by simp))) (.cons (lv (L := ⟨9, [(Z8 r11.2.2.1)], 0, 0x0037⟩) (by simp [hb9, hb10, hb56, hb59, hb62, hb65, show ieq 3 0 = false from rfl, k666_lt, Q4 k666_i, Q5 k666_i, k666_g, k666_l, elt k666_g, hb763, hb764, hb765, hb771]) rfl rfl (by simp [hb9, hb10, hb56, hb59, hb62, hb65, show ieq 3 0 = false from rfl, k666_lt, Q4 k666_i, Q5 k666_i, k666_g, k666_l, elt k666_g, hb763, hb764, hb765, hb771]) (Q09 (by simp [hb9, hb10, hb56, hb59, hb62, hb65, show ieq 3 0 = false from rfl, k666_lt, Q4 k666_i, Q5 k666_i, k666_g, k666_l, elt k666_g, hb763, hb764, hb765, hb771]) (by simp))) (.cons (lv (L := ⟨9, [(Z8 r11.2.2.2)], 0, 0x0037⟩) (by simp [hb9, hb10, hb56, hb59, hb62, hb65, show ieq 3 0 = false from rfl, k666_lt, Q4 k666_i, Q5 k666_i, k666_g, k666_l, elt k666_g, hb763, hb764, hb765, hb771]) rfl rfl (by simp [hb9, hb10, hb56, hb59, hb62, hb65, show ieq 3 0 = false from rfl, k666_lt, Q4 k666_i, Q5 k666_i, k666_g, k666_l, elt k666_g, hb763, hb764, hb765, hb771]) (Q09 (by simp [hb9, hb10, hb56, hb59, hb62, hb65, show ieq 3 0 = false from rfl, k666_lt, Q4 k666_i, Q5 k666_i, k666_g, k666_l, elt k666_g, hb763, hb764, hb765, hb771]) (by simp))) .nil)))
                    · rw [if_neg (Q04 hb763)] at g728
                      rcases Bool.eq_false_or_eq_true (ilt r729.1 0) with hb773 | hb773
                      · rw [if_pos hb773] at g728
                        rcases Bool.eq_false_or_eq_true (ile 0 r730.1) with hb774 | hb774
                        · rw [if_pos hb774] at g728
                          refine TrD.regK Q1s (fun K hK => ?_)
                          simp [hb9, hb10, hb56, hb59, hb62, hb65, show ieq 3 0 = false from rfl, k666_lt, Q4 k666_i, Q5 k666_i, k666_g, k666_l, elt k666_g, hb763, hb773, hb774]
                          refine hK _ ?_
                          refine TrD.cond (b := true) (by simp [hb9, hb10, hb56, hb59, hb62, hb65, show ieq 3 0 = false from rfl, k666_lt, Q4 k666_i, Q5 k666_i, k666_g, k666_l, elt k666_g, hb763, hb773, hb774]) (fun hb => ?_) (fun hb => by cases hb)
                          refine TrD.seq ?_
                          refine TrD.regK Q1s (fun K hK => ?_)
                          simp [hb9, hb10, hb56, hb59, hb62, hb65, show ieq 3 0 = false from rfl, k666_lt, Q4 k666_i, Q5 k666_i, k666_g, k666_l, elt k666_g, hb763, hb773, hb774]
                          refine hK _ ?_
                          obtain rfl := Option.some.inj g728
                          obtain rfl := Option.some.inj g669
                          obtain rfl := hret664 _ rfl
                          obtain rfl := Option.some.inj h
                          refine TrD.ret ?_
                          refine Q5q (σ' := ⟨(updD (fun _ => .any) 4 (eB false)), hOfO [], 0, 142⟩) ?_ ?_
                          · exact W2.canonV 0 [] _ _ hβ (W8 (by decide)) (by decide) (W3 (v_of (d0 := (eB false)) (by simp [hb9, hb10, hb56, hb59, hb62, hb65, show ieq 3 0 = false from rfl, k666_lt, Q4 k666_i, Q5 k666_i, k666_g, k666_l, elt k666_g, hb763, hb773, hb774]) (J1 (by simp) (by simp [hb9, hb10, hb56, hb59, hb62, hb65, show ieq 3 0 = false from rfl, k666_lt, Q4 k666_i, Q5 k666_i, k666_g, k666_l, elt k666_g, hb763, hb773, hb774]))) (Q2k _)) .nil
                          · dsimp only [resD]
                            refine endF ?_ ?_ <;> simp [Q4d]
                        · rw [if_neg (Q04 hb774)] at g728
                          obtain ⟨r775, hr775, g728⟩ := bindE g728
                          refine TrD.regK Q1s (fun K hK => ?_)
                          simp [hb9, hb10, hb56, hb59, hb62, hb65, show ieq 3 0 = false from rfl, k666_lt, Q4 k666_i, Q5 k666_i, k666_g, k666_l, elt k666_g, hb763, hb773, hb774]
                          refine Z9f (Q62 n r729.2.1 r730.2.1 _ hr775) (by simp [hb9, hb10, hb56, hb59, hb62, hb65, show ieq 3 0 = false from rfl, k666_lt, Q4 k666_i, Q5 k666_i, k666_g, k666_l, elt k666_g, hb763, hb773, hb774]) (by simp) (fun q777 hq777 => ?_)
                          subst hq777
                          simp [hb9, hb10, hb56, hb59, hb62, hb65, show ieq 3 0 = false from rfl, k666_lt, Q4 k666_i, Q5 k666_i, k666_g, k666_l, elt k666_g, hb763, hb773, hb774]
                          refine hK _ ?_
                          refine TrD.cond (b := (!r775)) (by simp [hb9, hb10, hb56, hb59, hb62, hb65, show ieq 3 0 = false from rfl, k666_lt, Q4 k666_i, Q5 k666_i, k666_g, k666_l, elt k666_g, hb763, hb773, hb774]) (fun hb776 => ?_) (fun hb776 => ?_)
                          · rw [if_pos hb776] at g728
                            refine TrD.seq ?_
                            refine TrD.regK Q1s (fun K hK => ?_)
                            simp [hb9, hb10, hb56, hb59, hb62, hb65, show ieq 3 0 = false from rfl, k666_lt, Q4 k666_i, Q5 k666_i, k666_g, k666_l, elt k666_g, hb763, hb773, hb774, hb776]
                            refine hK _ ?_
                            obtain rfl := Option.some.inj g728
                            obtain rfl := Option.some.inj g669
                            obtain rfl := hret664 _ rfl
                            obtain rfl := Option.some.inj h
                            refine TrD.ret ?_
                            refine Q5q (σ' := ⟨(updD (fun _ => .any) 4 (eB false)), hOfO [], 0, 142⟩) ?_ ?_
                            · exact W2.canonV 0 [] _ _ hβ (W8 (by decide)) (by decide) (W3 (v_of (d0 := (eB false)) (by simp [hb9, hb10, hb56, hb59, hb62, hb65, show ieq 3 0 = false from rfl, k666_lt, Q4 k666_i, Q5 k666_i, k666_g, k666_l, elt k666_g, hb763, hb773, hb774, hb776]) (J1 (by simp) (by simp [hb9, hb10, hb56, hb59, hb62, hb65, show ieq 3 0 = false from rfl, k666_lt, Q4 k666_i, Q5 k666_i, k666_g, k666_l, elt k666_g, hb763, hb773, hb774, hb776]))) (Q2k _)) .nil
                            · dsimp only [resD]
                              refine endF ?_ ?_ <;> simp [Q4d]
                          · rw [if_neg (Q04 hb776)] at g728
                            refine TrD.skip ?_
                            obtain rfl := Option.some.inj g728
                            refine Q8b.mk () rfl ?_
                            rw [hS727]
                            exact W2.canonV 0 [0, 1, 2] _ _ hβ (W8 (by decide)) (by decide) (W3 (v_of (d0 := (eI (k666 : Int))) (by simp [hb9, hb10, hb56, hb59, hb62, hb65, show ieq 3 0 = false from rfl, k666_lt, Q4 k666_i, Q5 k666_i, k666_g, k666_l, elt k666_g, hb763, hb773, hb774, hb776]) (J1 (by simp) (by simp [hb9, hb10, hb56, hb59, hb62, hb65, show ieq 3 0 = false from rfl, k666_lt, Q4 k666_i, Q5 k666_i, k666_g, k666_l, elt k666_g, hb763, hb773, hb774, hb776]))) (W3 (v_of (d0 := (.slice 3 (List.map X3 r68.1))) (by simp [hb9, hb10, hb56, hb59, hb62, hb65, show ieq 3 0 = false from rfl, k666_lt, Q4 k666_i, Q5 k666_i, k666_g, k666_l, elt k666_g, hb763, hb773, hb774, hb776]) (J1 (by simp) (by simp [hb9, hb10, hb56, hb59, hb62, hb65, show ieq 3 0 = false from rfl, k666_lt, Q4 k666_i, Q5 k666_i, k666_g, k666_l, elt k666_g, hb763, hb773, hb774, hb776]))) (W3 (v_of (d0 := (.ptr 9 2 0 0)) (by simp [hb9, hb10, hb56, hb59, hb62, hb65, show ieq 3 0 = false from rfl, k666_lt, Q4 k666_i, Q5 k666_i, k666_g, k666_l, elt k666_g, hb763, hb773, hb774, hb776]) (Q5u rfl)) (W3 (v_of (d0 := (.ptr 9 1 0 0)) (by simp [hb9, hb10, hb56, hb59, hb62, hb65, show ieq 3 0 = false from rfl, k666_lt, Q4 k666_i, Q5 k666_i, k666_g, k666_l, elt k666_g, hb763, hb773, hb774, hb776]) (Q5u rfl)) (W3 (v_of (d0 := (.ptr 2 0 0 0)) (by simp [hb9, hb10, hb56, hb59, hb62, hb65, show ieq 3 0 = false from rfl, k666_lt, Q4 k666_i, Q5 k666_i, k666_g, k666_l, elt k666_g, hb763, hb773, hb774, hb776]) (Q5u rfl)) (W3 (v_of (d0 := (.slice 2 (List.map Z6 r11.1))) (by simp [hb9, hb10, hb56, hb59, hb62, hb65, show ieq 3 0 = false from rfl, k666_lt, Q4 k666_i, Q5 k666_i, k666_g, k666_l, elt k666_g, hb763, hb773, hb774, hb776]) (J1 (by simp) (by simp [hb9, hb10, hb56, hb59, hb62, hb65, show ieq 3 0 = false from rfl, k666_lt, Q4 k666_i, Q5 k666_i, k666_g, k666_l, elt k666_g, hb763, hb773, hb774, hb776]))) (Q2k _))))))) (.cons (lv (L := ⟨2, [(Z2 r11.2.1)], 0, 0x0019⟩) (by simp [hb9, hb10, hb56, hb59, hb62, hb65, show ieq 3 0 = false from rfl, k666_lt, Q4 k666_i, Q5 k666_i, k666_g, k666_l, elt k666_g, hb763, hb773, hb774, hb776]) rfl rfl (by simp [hb9, hb10, hb56, hb59, hb62, hb65, show ieq 3 0 = false from rfl, k666_lt, Q4 k666_i, Q5 k666_i, k666_g, k666_l, elt k666_g, hb763, hb773, hb774, hb776]) (Q09 (by simp [hb9, hb10, hb56, hb59, hb62, hb65, show ieq 3 0 = false from rfl, k666_lt, Q4 k666_i, Q5 k666_i, k666_g, k666_l, elt k666_g, hb763, hb773, hb774, hb776]) (by simp))) (.cons (lv (L := ⟨9, [(Z8 r11.2.2.1)], 0, 0x0037⟩) (by simp [hb9, hb10, hb56, hb59, hb62, hb65, show ieq 3 0 = false from rfl, k666_lt, Q4 k666_i, Q5 k666_i, k666_g, k666_l, elt k666_g, hb763, hb773, hb774, hb776]) rfl rfl (by simp [hb9, hb10, hb56, hb59, hb62, hb65, show ieq 3 0 = false from rfl, k666_lt, Q4 k666_i, Q5 k666_i, k666_g, k666_l, elt k666_g, hb763, hb773, hb774, hb776]) (Q09 (by simp [hb9, hb10, hb56, hb59, hb62, hb65, show ieq 3 0 = false from rfl, k666_lt, Q4 k666_i, Q5 k666_i, k666_g, k666_l, elt k666_g, hb763, hb773, hb774, hb776]) (by simp))) (.cons (lv (L := ⟨9, [(Z8 r11.2.2.2)], 0, 0x0037⟩) (by simp [hb9, hb10, hb56, hb59, hb62, hb65, show ieq 3 0 = false from rfl, k666_lt, Q4 k666_i, Q5 k666_i, k666_g, k666_l, elt k666_g, hb763, hb773, hb774, hb776]) rfl rfl (by simp [hb9, hb10, hb56, hb59, hb62, hb65, show ieq 3 0 = false from rfl, k666_lt, Q4 k666_i, Q5 k666_i, k666_g, k666_l, elt k666_g, hb763, hb773, hb774, hb776]) (Q09 (by simp [hb9, hb10, hb56, hb59, hb62, hb65, show ieq 3 0 = false from rfl, k666_lt, Q4 k666_i, Q5 k666_i, k666_g, k666_l, elt k666_g, hb763, hb773, hb774, hb776]) (by simp))) .nil)))
                      · rw [if_neg (Q04 hb773)] at g728
                        obtain ⟨r778, hr778, g728⟩ := bindE g728
                        refine TrD.regK Q1s (fun K hK => ?_)
                        simp [hb9, hb10, hb56, hb59, hb62, hb65, show ieq 3 0 = false from rfl, k666_lt, Q4 k666_i, Q5 k666_i, k666_g, k666_l, elt k666_g, hb763, hb773]
                        refine Z9f (Q62 n r729.2.1 r730.2.1 _ hr778) (by simp [hb9, hb10, hb56, hb59, hb62, hb65, show ieq 3 0 = false from rfl, k666_lt, Q4 k666_i, Q5 k666_i, k666_g, k666_l, elt k666_g, hb763, hb773]) (by simp) (fun q780 hq780 => ?_)
                        subst hq780
                        simp [hb9, hb10, hb56, hb59, hb62, hb65, show ieq 3 0 = false from rfl, k666_lt, Q4 k666_i, Q5 k666_i, k666_g, k666_l, elt k666_g, hb763, hb773]
                        refine hK _ ?_
                        refine TrD.cond (b := (!r778)) (by simp [hb9, hb10, hb56, hb59, hb62, hb65, show ieq 3 0 = false from rfl, k666_lt, Q4 k666_i, Q5 k666_i, k666_g, k666_l, elt k666_g, hb763, hb773]) (fun hb779 => ?_) (fun hb779 => ?_)
                        · rw [if_pos hb779] at g728
                          refine TrD.seq ?_
                          refine TrD.regK Q1s (fun K hK => ?_)
                          simp [hb9, hb10, hb56, hb59, hb62, hb65, show ieq 3 0 = false from rfl, k666_lt, Q4 k666_i, Q5 k666_i, k666_g, k666_l, elt k666_g, hb763, hb773, hb779]
                          refine hK _ ?_
                          obtain rfl := Option.some.inj g728
                          obtain rfl := Option.some.inj g669
                          obtain rfl := hret664 _ rfl
                          obtain rfl := Option.some.inj h
                          refine TrD.ret ?_
                          refine Q5q (σ' := ⟨(updD (fun _ => .any) 4 (eB false)), hOfO [], 0, 142⟩) ?_ ?_
                          · exact W2.canonV 0 [] _ _ hβ (W8 (by decide)) (by decide) (W3 (v_of (d0 := (eB false)) (by simp [hb9, hb10, hb56, hb59, hb62, hb65, show ieq 3 0 = false from rfl, k666_lt, Q4 k666_i, Q5 k666_i, k666_g, k666_l, elt k666_g, hb763, hb773, hb779]) (J1 (by simp) (by simp [hb9, hb10, hb56, hb59, hb62, hb65, show ieq 3 0 = false from rfl, k666_lt, Q4 k666_i, Q5 k666_i, k666_g, k666_l, elt k666_g, hb763, hb773, hb779]))) (Q2k _)) .nil
                          · dsimp only [resD]
                            refine endF ?_ ?_ <;> simp [Q4d]
                        · rw [if_neg (Q04 hb779)] at g728
                          refine TrD.skip ?_
                          obtain rfl := Option.some.inj g728
                          refine Q8b.mk () rfl ?_
                          rw [hS727]
                          exact W2.canonV 0 [0, 1, 2] _ _ hβ (W8 (by decide)) (by decide) (W3 (v_of (d0 := (eI (k666 : Int))) (by simp [hb9, hb10, hb56, hb59, hb62, hb65, show ieq 3 0 = false from rfl, k666_lt, Q4 k666_i, Q5 k666_i, k666_g, k666_l, elt k666_g, hb763, hb773, hb779]) (J1 (by simp) (by simp [hb9, hb10, hb56, hb59, hb62, hb65, show ieq 3 0 = false from rfl, k666_lt, Q4 k666_i, Q5 k666_i, k666_g, k666_l, elt k666_g, hb763, hb773, hb779]))) (W3 (v_of (d0 := (.slice 3 (List.map X3 r68.1))) (by simp [hb9, hb10, hb56, hb59, hb62, hb65, show ieq 3 0 = false from rfl, k666_lt, Q4 k666_i, Q5 k666_i, k666_g, k666_l, elt k666_g, hb763, hb773, hb779]) (J1 (by simp) (by simp [hb9, hb10, hb56, hb59, hb62, hb65, show ieq 3 0 = false from rfl, k666_lt, Q4 k666_i, Q5 k666_i, k666_g, k666_l, elt k666_g, hb763, hb773, hb779]))) (W3 (v_of (d0 := (.ptr 9 2 0 0)) (by simp [hb9, hb10, hb56, hb59, hb62, hb65, show ieq 3 0 = false from rfl, k666_lt, Q4 k666_i, Q5 k666_i, k666_g, k666_l, elt k666_g, hb763, hb773, hb779]) (Q5u rfl)) (W3 (v_of (d0 := (.ptr 9 1 0 0)) (by simp [hb9, hb10, hb56, hb59, hb62, hb65, show ieq 3 0 = false from rfl, k666_lt, Q4 k666_i, Q5 k666_i, k666_g, k666_l, elt k666_g, hb763, hb773, hb779]) (Q5u rfl)) (W3 (v_of (d0 := (.ptr 2 0 0 0)) (by simp [hb9, hb10, hb56, hb59, hb62, hb65, show ieq 3 0 = false from rfl, k666_lt, Q4 k666_i, Q5 k666_i, k666_g, k666_l, elt k666_g, hb763, hb773, hb779]) (Q5u rfl)) (W3 (v_of (d0 := (.slice 2 (List.map Z6 r11.1))) (by simp [hb9, hb10, hb56, hb59, hb62, hb65, show ieq 3 0 = false from rfl, k666_lt, Q4 k666_i, Q5 k666_i, k666_g, k666_l, elt k666_g, hb763, hb773, hb779]) (J1 (by simp) (by simp [hb9, hb10, hb56, hb59, hb62, hb65, show ieq 3 0 = false from rfl, k666_lt, Q4 k666_i, Q5 k666_i, k666_g, k666_l, elt k666_g, hb763, hb773, hb779]))) (Q2k _))))))) (.cons (lv (L := ⟨2, [(Z2 r11.2.1)], 0, 0x0019⟩) (by simp [hb9, hb10, hb56, hb59, hb62, hb65, show ieq 3 0 = false from rfl, k666_lt, Q4 k666_i, Q5 k666_i, k666_g, k666_l, elt k666_g, hb763, hb773, hb779]) rfl rfl (by simp [hb9, hb10, hb56, hb59, hb62, hb65, show ieq 3 0 = false from rfl, k666_lt, Q4 k666_i, Q5 k666_i, k666_g, k666_l, elt k666_g, hb763, hb773, hb779]) (Q09 (by simp [hb9, hb10, hb56, hb59, hb62, hb65, show ieq 3 0 = false from rfl, k666_lt, Q4 k666_i, Q5 k666_i, k666_g, k666_l, elt k666_g, hb763, hb773, hb779]) (by simp))) (.cons (lv (L := ⟨9, [(Z8 r11.2.2.1)], 0, 0x0037⟩) (by simp [hb9, hb10, hb56, hb59, hb62, hb65, show ieq 3 0 = false from rfl, k666_lt, Q4 k666_i, Q5 k666_i, k666_g, k666_l, elt k666_g, hb763, hb773, hb779]) rfl rfl (by simp [hb9, hb10, hb56, hb59, hb62, hb65, show ieq 3 0 = false from rfl, k666_lt, Q4 k666_i, Q5 k666_i, k666_g, k666_l, elt k666_g, hb763, hb773, hb779]) (Q09 (by simp [hb9, hb10, hb56, hb59, hb62, hb65, show ieq 3 0 = false from rfl, k666_lt, Q4 k666_i, Q5 k666_i, k666_g, k666_l, elt k666_g, hb763, hb773, hb779]) (by simp))) (.cons (lv (L := ⟨9, [(Z8 r11.2.2.2)], 0, 0x0037⟩) (by simp [hb9, hb10, hb56, hb59, hb62, hb65, show ieq 3 0 = false from rfl, k666_lt, Q4 k666_i, Q5 k666_i, k666_g, k666_l, elt k666_g, hb763, hb773, hb779]) rfl rfl (by simp [hb9, hb10, hb56, hb59, hb62, hb65, show ieq 3 0 = false from rfl, k666_lt, Q4 k666_i, Q5 k666_i, k666_g, k666_l, elt k666_g, hb763, hb773, hb779]) (Q09 (by simp [hb9, hb10, hb56, hb59, hb62, hb65, show ieq 3 0 = false from rfl, k666_lt, Q4 k666_i, Q5 k666_i, k666_g, k666_l, elt k666_g, hb763, hb773, hb779]) (by simp))) .nil)))
                  · subst hz
                    try dsimp only at g669
                    rw [congrFun hS727 s725]
                    refine TrD.regK Q1s (fun K hK => ?_)
                    simp [hb9, hb10, hb56, hb59, hb62, hb65, show ieq 3 0 = false from rfl, k666_lt, Q4 k666_i, Q5 k666_i, k666_g, k666_l, elt k666_g]
                    refine hK _ ?_
                    obtain rfl := Option.some.inj g669
                    refine Q8b.mk () rfl ?_
                    rw [hS662]
                    exact W2.canonV 0 [0, 1, 2] _ _ hβ (W8 (by decide)) (by decide) (W3 (v_of (d0 := (eI (wadd .i64 (k666 : Int) 1))) (by simp [hb9, hb10, hb56, hb59, hb62, hb65, show ieq 3 0 = false from rfl, k666_lt, Q4 k666_i, Q5 k666_i, k666_g, k666_l, elt k666_g, k666_w]) (J1 (by simp) (by simp [hb9, hb10, hb56, hb59, hb62, hb65, show ieq 3 0 = false from rfl, k666_lt, Q4 k666_i, Q5 k666_i, k666_g, k666_l, elt k666_g, k666_w]))) (W3 (v_of (d0 := (.slice 3 (List.map X3 r68.1))) (by simp [hb9, hb10, hb56, hb59, hb62, hb65, show ieq 3 0 = false from rfl, k666_lt, Q4 k666_i, Q5 k666_i, k666_g, k666_l, elt k666_g, k666_w]) (J1 (by simp) (by simp [hb9, hb10, hb56, hb59, hb62, hb65, show ieq 3 0 = false from rfl, k666_lt, Q4 k666_i, Q5 k666_i, k666_g, k666_l, elt k666_g, k666_w]))) (W3 (v_of (d0 := (.ptr 9 2 0 0)) (by simp [hb9, hb10, hb56, hb59, hb62, hb65, show ieq 3 0 = false from rfl, k666_lt, Q4 k666_i, Q5 k666_i, k666_g, k666_l, elt k666_g, k666_w]) (Q5u rfl)) (W3 (v_of (d0 := (.ptr 9 1 0 0)) (by simp [hb9, hb10, hb56, hb59, hb62, hb65, show ieq 3 0 = false from rfl, k666_lt, Q4 k666_i, Q5 k666_i, k666_g, k666_l, elt k666_g, k666_w]) (Q5u rfl)) (W3 (v_of (d0 := (.ptr 2 0 0 0)) (by simp [hb9, hb10, hb56, hb59, hb62, hb65, show ieq 3 0 = false from rfl, k666_lt, Q4 k666_i, Q5 k666_i, k666_g, k666_l, elt k666_g, k666_w]) (Q5u rfl)) (W3 (v_of (d0 := (.slice 2 (List.map Z6 r11.1))) (by simp [hb9, hb10, hb56, hb59, hb62, hb65, show ieq 3 0 = false from rfl, k666_lt, Q4 k666_i, Q5 k666_i, k666_g, k666_l, elt k666_g, k666_w]) (J1 (by simp) (by simp [hb9, hb10, hb56, hb59, hb62, hb65, show ieq 3 0 = false from rfl, k666_lt, Q4 k666_i, Q5 k666_i, k666_g, k666_l, elt k666_g, k666_w]))) (Q2k _))))))) (.cons (lv (L := ⟨2, [(Z2 r11.2.1)], 0, 0x0019⟩) (by simp [hb9, hb10, hb56, hb59, hb62, hb65, show ieq 3 0 = false from rfl, k666_lt, Q4 k666_i, Q5 k666_i, k666_g, k666_l, elt k666_g, k666_w]) rfl rfl (by simp [hb9, hb10, hb56, hb59, hb62, hb65, show ieq 3 0 = false from rfl, k666_lt, Q4 k666_i, Q5 k666_i, k666_g, k666_l, elt k666_g, k666_w]) (Q09 (by simp [hb9, hb10, hb56, hb59, hb62, hb65, show ieq 3 0 = false from rfl, k666_lt, Q4 k666_i, Q5 k666_i, k666_g, k666_l, elt k666_g, k666_w]) (by simp))) (.cons (lv (L := ⟨9, [(Z8 r11.2.2.1)], 0, 0x0037⟩) (by simp [hb9, hb10, hb56, hb59, hb62, hb65, show ieq 3 0 = false from rfl, k666_lt, Q4 k666_i, Q5 k666_i, k666_g, k666_l, elt k666_g, k666_w]) rfl rfl (by simp [hb9, hb10, hb56, hb59, hb62, hb65, show ieq 3 0 = false from rfl, k666_lt, Q4 k666_i, Q5 k666_i, k666_g, k666_l, elt k666_g, k666_w]) (Q09 (by simp [hb9, hb10, hb56, hb59, hb62, hb65, show ieq 3 0 = false from rfl, k666_lt, Q4 k666_i, Q5 k666_i, k666_g, k666_l, elt k666_g, k666_w]) (by simp))) (.cons (lv (L := ⟨9, [(Z8 r11.2.2.2)], 0, 0x0037⟩) (by simp [hb9, hb10, hb56, hb59, hb62, hb65, show ieq 3 0 = false from rfl, k666_lt, Q4 k666_i, Q5 k666_i, k666_g, k666_l, elt k666_g, k666_w]) rfl rfl (by simp [hb9, hb10, hb56, hb59, hb62, hb65, show ieq 3 0 = false from rfl, k666_lt, Q4 k666_i, Q5 k666_i, k666_g, k666_l, elt k666_g, k666_w]) (Q09 (by simp [hb9, hb10, hb56, hb59, hb62, hb65, show ieq 3 0 = false from rfl, k666_lt, Q4 k666_i, Q5 k666_i, k666_g, k666_l, elt k666_g, k666_w]) (by simp))) .nil)))
                · rw [congrFun (congrFun hS662 _) s660]
                  refine TrD.seq ?_
                  refine TrD.seq ?_
                  refine TrD.regK Q1s (fun K hK => ?_)
                  simp [hb9, hb10, hb56, hb59, hb62, hb65, show ieq 3 0 = false from rfl, X3f r68.1.length]
                  refine hK _ ?_
                  refine TrD.cond (b := false) (by simp [hb9, hb10, hb56, hb59, hb62, hb65, show ieq 3 0 = false from rfl, X3f r68.1.length]) (fun hb => by cases hb) (fun hb => ?_)
                  refine TrD.exit ?_
                  try simp only [↓reduceIte, Nat.reduceEqDiff, Nat.zero_ne_one, Nat.one_ne_zero, OfNat.ofNat_ne_zero, OfNat.zero_ne_ofNat, OfNat.one_ne_ofNat, OfNat.ofNat_ne_one]
                  refine Q8b.mk s660 s660_stop ?_
                  rw [hE663]
                  exact W2.canonV 0 [] _ _ hβ (W8 (by decide)) (by decide) (Q2k _) .nil
              · subst hz
                try dsimp only at h
                rw [congrFun hE663 s670]
                refine TrD.seq ?_
                refine TrD.regK Q1s (fun K hK => ?_)
                simp [hb9, hb10, hb56, hb59, hb62, hb65, show ieq 3 0 = false from rfl]
                refine hK _ ?_
                obtain rfl := Option.some.inj h
                refine TrD.ret ?_
                refine Q5q (σ' := ⟨(updD (fun _ => .any) 4 (eB true)), hOfO [], 0, 142⟩) ?_ ?_
                · exact W2.canonV 0 [] _ _ hβ (W8 (by decide)) (by decide) (W3 (v_of (d0 := (eB true)) (by simp [hb9, hb10, hb56, hb59, hb62, hb65, show ieq 3 0 = false from rfl]) (J1 (by simp) (by simp [hb9, hb10, hb56, hb59, hb62, hb65, show ieq 3 0 = false from rfl]))) (Q2k _)) .nil
                · dsimp only [resD]
                  refine endF ?_ ?_ <;> simp [Q4d]
instance X2d : ∀ (n : Nat) (p0 : (List Int)) (p1 : (List Int)), Ct (Q0z n p0 p1) fun res => Q9 Tryz.prog 0o00005 [(.slice 1 (List.map (rK .u8) p0)), (.slice 1 (List.map (rK .u8) p1))] (fun d => d = (eB res)) := fun n p0 p1 => ⟨Q6i n p0 p1⟩
end Go.Proofs.YtnackipaoepmfaaGreat
