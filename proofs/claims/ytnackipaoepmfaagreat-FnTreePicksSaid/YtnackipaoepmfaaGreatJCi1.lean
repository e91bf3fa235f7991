import Derived.Test.YtnackipaoepmfaaGreatJMir
import Derived.Test.YtnackipaoepmfaaGreatJAuto
import Derived.Test.YtnackipaoepmfaaGreatJCi0
import Derived.Test.YtnackipaoepmfaaGreatJAuI
set_option linter.unusedSimpArgs false
set_option linter.unusedVariables false
set_option linter.unusedSimpArgs false
set_option linter.unusedVariables false
namespace Go.Proofs.YtnackipaoepmfaaGreat
open Go Go.RowKit
set_option maxRecDepth 100000
set_option maxHeartbeats 20000000
instance W23 : ∀ (n : Nat) (p0 : Grow) (p1 : Int) (p2 : Z0) (p3 : (List Z6)), Ct (Q3f n p0 p1 p2 p3) fun res => Z1 Tryz.prog 0o00340 [(.agg (Q3n p0)), (eI p1), (.agg (J7 p2)), (.slice 3 (List.map Q11 p3))] (fun d => d = .tup [(.agg (Q3n res.1)), (eB res.2)]) :=
 au Tryz.func224 Q3f.eq_1 (.o (.o (.o (.o (.o (.o (.j 3 0 [1, 3, 4, 8, 11] [0, 16] (fun (s38 : (List Q0)) => [(11, .slice 6 (List.map Q8 s38))]) (fun _ => []) (.i (.pN 11 6 0x0033 (.ls 3 (.f [1, 3, 4, 8, 11] [0, 16, 176] [1, 3, 4, 8, 11, 33, 34] [0, 16, 176] (fun (k61 : Nat) (s57 : (List Q0)) => [(11, .sl 6 176 (s57).length), (34, eI (k61 : Int))]) (fun k61 s57 => [(176, some ⟨6, (List.map Q8 s57), 0, 0x0033⟩)]) (fun k61 s57 => .z) (fun s65 => .pF 2 .z)))) .z) (fun s38 => .g [1, 3, 4, 8, 11] [0, 1] [] [] (.o (.o (.dz [0, 1, 2, 3, 4, 5, 7, 8, 6, 9, 10, 11] [0] [1048588] [] (.ls 11 (.f [1, 4, 8, 12] [0, 1, 1048588, 2097153] [1, 3, 4, 8, 12, 66, 67, 68] [0, 1, 1048588, 2097153] (fun (k138 : Nat) (s134 : Int × (List Q0) × (List Q1)) => [(68, eI (k138 : Int))]) (fun k138 s134 => [(1001048588, some ⟨3, [[(eI s134.1), (.sl 6 2097153 (s134.2.1).length), (.slice 2 (List.map Z2 s134.2.2))]], 0, 0x00a6⟩), (2097153, some ⟨6, (List.map Q8 s134.2.1), 0, 0x0033⟩)]) (fun k138 s134 => .o (.g [1, 3, 4, 8, 12, 13, 14, 66, 67, 68] [0, 1, 2, 3, 36] [] [(1000000002, some ⟨3, [[(eI s134.1), (.sl 6 3 (s134.2.1).length), (.slice 2 (List.map Z2 s134.2.2))]], 0, 0x00a6⟩)] (.o (.o (.d [0, 1, 2, 3, 4, 5, 6, 7, 8] [2, 4] [12] .z))))) (fun s142 => .g [1, 4, 8, 12] [0, 1, 2, 3] [] [(1000000002, some ⟨3, [[(eI s142.1), (.sl 6 3 (s142.2.1).length), (.slice 2 (List.map Z2 s142.2.2))]], 0, 0x00a6⟩)] (.o (.o (.d [0, 1, 2, 3, 4, 5, 6, 7, 8, 9] [0, 2] [90] .z)))))))))))))))))
end Go.Proofs.YtnackipaoepmfaaGreat
set_option linter.unusedSimpArgs false
set_option linter.unusedVariables false
namespace Go.Proofs.YtnackipaoepmfaaGreat
open Go Go.RowKit
set_option maxRecDepth 100000
set_option maxHeartbeats 20000000
instance X3x : ∀ (p1 : Int), Ct (Q1y p1) fun res => J6 Tryz.prog 0o00447 [] [.nil, (eI p1)] (fun H d => H = [some ⟨3, List.map Q11 res, 0, 0x00ad⟩] ∧ d = .sl 3 0 res.length) :=
 au Tryz.func295 Q1y.eq_1 (.o (.i .z (.j 3 0 [0] [9000] (fun (s6 : Unit) => [(0, .sl 3 9000 0)]) (fun _ => [(9000, some ⟨3, (List.map Q11 []), 0, 0x00ad⟩)]) (.i (.o (.o (.pS 144 0 Q11 ([] : List Z6) .z))) (.pN 0 3 0x00ad .z)) (fun _ => .z))))
end Go.Proofs.YtnackipaoepmfaaGreat
set_option linter.unusedSimpArgs false
set_option linter.unusedVariables false
namespace Go.Proofs.YtnackipaoepmfaaGreat
open Go Go.RowKit
set_option maxRecDepth 100000
set_option maxHeartbeats 20000000
instance X1d : ∀ (p0 : (List (List Z6))), Ct (Q1a p0) fun res => Z1 Tryz.prog 0o00341 [(.slice 1 (List.map (rL 3 Q11) p0))] (fun d => d = (.slice 3 (List.map Q11 res))) :=
 au Tryz.func225 Q1a.eq_1 (.o (.ls 0 (.f [0, 3] [] [0, 3, 9, 10, 11] [] (fun (k46 : Nat) (s42 : Int) => [(3, eI s42), (11, eI (k46 : Int))]) (fun k46 s42 => []) (fun k46 s42 => .z) (fun s50 => .o (.ls 0 (.f [6] [9] [6, 25, 26, 27] [9] (fun (k99 : Nat) (s95 : (List Z6)) => [(6, .sl 3 9 (s95).length), (27, eI (k99 : Int))]) (fun k99 s95 => [(9, some ⟨3, (List.map Q11 s95), 0, 0x00ad⟩)]) (fun k99 s95 => .z) (fun s103 => .z)))))))
end Go.Proofs.YtnackipaoepmfaaGreat
set_option linter.unusedSimpArgs false
set_option linter.unusedVariables false
namespace Go.Proofs.YtnackipaoepmfaaGreat
open Go Go.RowKit
set_option maxRecDepth 100000
set_option maxHeartbeats 20000000
instance Z0s : ∀ (n : Nat) (p0 : (List Q1)) (p1 : Int) (p2 : Int) (p3 : (Q1 → Q1 → Option Int)) {p3_f : FuncId} {p3_c : List D} [p3_i : CF2 (fun a0 => (.agg (Z2 a0))) (fun a1 => (.agg (Z2 a1))) (fun r => (eI r)) p3 p3_f p3_c], Ct (V1 n p0 p1 p2 p3) fun res => J6 Tryz.prog 0o00543 [⟨2, List.map Z2 p0, 0, 0x010a⟩] [.sl 2 0 p0.length, (eI p1), (eI p2), .clos p3_f p3_c] (fun H d => H = [some ⟨2, List.map Z2 res, 0, 0x010a⟩] ∧ d = .tup []) :=
 au Tryz.func355 V1.eq_1 (.o (.o (.o (.o (.o (.o (.o (.o (.w [] [0] [0, 1, 2, 3, 8] [0] (fun (s464 : (List Q1) × Int) => [(0, .sl 2 0 (s464.1).length), (8, eI s464.2)]) (fun s464 => [(0, some ⟨2, (List.map Z2 s464.1), 0, 0x010a⟩)]) (fun s464 => .i (.w [0, 1, 2, 3, 8] [0] [0, 1, 2, 3, 8, 9] [0] (fun (s660 : (List Q1) × Int) => [(0, .sl 2 0 (s660.1).length), (9, eI s660.2)]) (fun s660 => [(0, some ⟨2, (List.map Z2 s660.1), 0, 0x010a⟩)]) (fun s660 => .g [0, 1, 2, 3, 8, 9] [0] [] [] (.i (.o (.o (.o (.d [0, 1, 2, 3, 4, 5, 6, 7, 8, 9, 10, 11, 12, 13, 14, 15, 16] [0] [] (.i (.g [0, 1, 2, 3, 8, 9] [0] [] [] (.o (.o (.o (.d [0, 1, 2, 3, 4, 5, 6, 7, 8, 9, 10, 11, 12, 13, 14, 15, 16, 17] [0] [51, 52] .z))))) .z))))) (.d [0, 1, 2, 3, 4, 5, 6, 7, 8, 9, 10, 11, 12, 13, 14, 15, 16] [] [] .z))) (fun s668 => .z)) .z) (fun s472 => .z))))))))))
end Go.Proofs.YtnackipaoepmfaaGreat
set_option linter.unusedSimpArgs false
set_option linter.unusedVariables false
namespace Go.Proofs.YtnackipaoepmfaaGreat
open Go Go.RowKit
set_option maxRecDepth 100000
set_option maxHeartbeats 20000000
instance Z3p : ∀ (n : Nat) (p0 : (List Q1)) (p1 : Int) (p2 : Int) (p3 : Int) (p4 : (Q1 → Q1 → Option Int)) {p4_f : FuncId} {p4_c : List D} [p4_i : CF2 (fun a0 => (.agg (Z2 a0))) (fun a1 => (.agg (Z2 a1))) (fun r => (eI r)) p4 p4_f p4_c], Ct (Q0e n p0 p1 p2 p3 p4) fun res => J6 Tryz.prog 0o00511 [⟨2, List.map Z2 p0, 0, 0x010a⟩] [.sl 2 0 p0.length, (eI p1), (eI p2), (eI p3), .clos p4_f p4_c] (fun H d => H = [some ⟨2, List.map Z2 res, 0, 0x010a⟩] ∧ d = .tup []) :=
 ar (au Tryz.func329 Q0e.eq_2 (.o (.o (.o (.o (.o (.o (.o (.o (.o (.o (.w [] [0] [0, 1, 2, 3, 4, 10, 11] [0] (fun (s10 : Unit) => []) (fun s10 => []) (fun s10 => .z) (fun s18 => .z)))))))))))))
end Go.Proofs.YtnackipaoepmfaaGreat
set_option linter.unusedSimpArgs false
set_option linter.unusedVariables false
namespace Go.Proofs.YtnackipaoepmfaaGreat
open Go Go.RowKit
set_option maxRecDepth 100000
set_option maxHeartbeats 20000000
instance X8k : ∀ (p0 : Int), Ct (Q6e p0) fun res => Z1 Tryz.prog 0o00535 [(.val (.int .u64 p0))] (fun d => d = (eI res)) :=
 au Tryz.func349 Q6e.eq_1 (.o (.j 1 0 [0, 2] [] (fun (s2 : Int × Int) => [(0, .val (.int .u64 s2.1)), (2, eI s2.2)]) (fun _ => []) .z (fun s2 => .j 4 0 [0, 2] [] (fun (s7 : Int × Int) => [(0, .val (.int .u64 s7.1)), (2, eI s7.2)]) (fun _ => []) .z (fun s7 => .j 7 0 [0, 2] [] (fun (s12 : Int × Int) => [(0, .val (.int .u64 s12.1)), (2, eI s12.2)]) (fun _ => []) .z (fun _ => .z)))))
end Go.Proofs.YtnackipaoepmfaaGreat
set_option linter.unusedSimpArgs false
set_option linter.unusedVariables false
namespace Go.Proofs.YtnackipaoepmfaaGreat
open Go Go.RowKit
set_option maxRecDepth 100000
set_option maxHeartbeats 20000000
instance W21 : ∀ (p0 : Int), Ct (Q4i p0) fun res => Z1 Tryz.prog 0o00464 [(.val (.int .u64 p0))] (fun d => d = (eI res)) :=
 au Tryz.func308 Q4i.eq_1 .z
end Go.Proofs.YtnackipaoepmfaaGreat
set_option linter.unusedSimpArgs false
set_option linter.unusedVariables false
namespace Go.Proofs.YtnackipaoepmfaaGreat
open Go Go.RowKit
set_option maxRecDepth 100000
set_option maxHeartbeats 20000000
instance Z81 : ∀ (n : Nat) (p0 : (List Q1)) (p1 : (Q1 → Q1 → Option Int)) {p1_f : FuncId} {p1_c : List D} [p1_i : CF2 (fun a0 => (.agg (Z2 a0))) (fun a1 => (.agg (Z2 a1))) (fun r => (eI r)) p1 p1_f p1_c], Ct (Q03 n p0 p1) fun res => J6 Tryz.prog 0o00442 [⟨2, List.map Z2 p0, 0, 0x010a⟩] [.sl 2 0 p0.length, .clos p1_f p1_c] (fun H d => H = [some ⟨2, List.map Z2 res, 0, 0x010a⟩] ∧ d = .tup []) :=
 au Tryz.func290 Q03.eq_1 .z
end Go.Proofs.YtnackipaoepmfaaGreat
set_option linter.unusedSimpArgs false
set_option linter.unusedVariables false
namespace Go.Proofs.YtnackipaoepmfaaGreat
open Go Go.RowKit
set_option maxRecDepth 100000
set_option maxHeartbeats 20000000
instance W2a : ∀ (p0 : Int), Ct (Q3k p0) fun res => Z1 Tryz.prog 0o00465 [(eI p0)] (fun d => d = (eB res)) :=
 au Tryz.func309 Q3k.eq_1 .z
end Go.Proofs.YtnackipaoepmfaaGreat
set_option linter.unusedSimpArgs false
set_option linter.unusedVariables false
namespace Go.Proofs.YtnackipaoepmfaaGreat
open Go Go.RowKit
set_option maxRecDepth 100000
set_option maxHeartbeats 20000000
instance X8r : ∀ (p0 : Int) (p1 : Int), Ct (Q0x p0 p1) fun res => Z1 Tryz.prog 0o00375 [(eI p0), (eI p1)] (fun d => d = (eI res)) :=
 au Tryz.func253 Q0x.eq_1 .z
end Go.Proofs.YtnackipaoepmfaaGreat
set_option linter.unusedSimpArgs false
set_option linter.unusedVariables false
namespace Go.Proofs.YtnackipaoepmfaaGreat
open Go Go.RowKit
set_option maxRecDepth 100000
set_option maxHeartbeats 20000000
instance X0j : ∀ (p0 : Q1) (p1 : Q1), Ct (J4 p0 p1) fun res => Z1 Tryz.prog 0o00443 [(.agg (Z2 p0)), (.agg (Z2 p1))] (fun d => d = (eI res)) :=
 au Tryz.func291 J4.eq_1 .z
end Go.Proofs.YtnackipaoepmfaaGreat
set_option linter.unusedSimpArgs false
set_option linter.unusedVariables false
namespace Go.Proofs.YtnackipaoepmfaaGreat
open Go Go.RowKit
set_option maxRecDepth 100000
set_option maxHeartbeats 20000000
instance X1c : ∀ (p0 : (List Grow)) (p1 : (Grow → Option Bool)) {p1_f : FuncId} {p1_c : List D} [p1_i : CF1 (fun a0 => (.agg (Q3n a0))) (fun r => (eB r)) p1 p1_f p1_c], Ct (Q19 p0 p1) fun res => Z1 Tryz.prog 0o00512 [(.slice 3 (List.map Q3n p0)), .clos p1_f p1_c] (fun d => d = (eI res)) :=
 au Tryz.func330 Q19.eq_1 (.o (.o (.o (.o (.o (.ls 0 (.f [] [] [0, 1, 7, 8] [] (fun (k54 : Nat) (s50 : Unit) => [(8, eI (k54 : Int))]) (fun k54 s50 => []) (fun k54 s50 => .z) (fun s58 => .z))))))))
end Go.Proofs.YtnackipaoepmfaaGreat
set_option linter.unusedSimpArgs false
set_option linter.unusedVariables false
namespace Go.Proofs.YtnackipaoepmfaaGreat
open Go Go.RowKit
set_option maxRecDepth 100000
set_option maxHeartbeats 20000000
instance X0g : ∀ (n : Nat) (p0 : (List Grow)) (p1 : (Grow → Option Bool)) {p1_f : FuncId} {p1_c : List D} [p1_i : CF1 (fun a0 => (.agg (Q3n a0))) (fun r => (eB r)) p1 p1_f p1_c], Ct (Q0i n p0 p1) fun res => J6 Tryz.prog 0o00444 [⟨3, List.map Q3n p0, 0, 0x00a6⟩] [.sl 3 0 p0.length, .clos p1_f p1_c] (fun H d => H = [none, some ⟨3, List.map Q3n res, 0, 0x00a6⟩] ∧ d = .sl 3 1 res.length) :=
 au Tryz.func292 Q0i.eq_1 (.o (.o (.o (.o (.o (.o (.o (.i (.pM 4 .z) (.w [0, 5] [0] [0, 1, 5, 6] [0] (fun (s96 : (List Grow) × Int × Int) => [(0, .sl 3 0 (s96.1).length), (5, eI s96.2.1), (6, eI s96.2.2)]) (fun s96 => [(0, some ⟨3, (List.map Q3n s96.1), 0, 0x00a6⟩)]) (fun s96 => .i (.j 7 0 [0, 1, 5, 6] [0] (fun (s112 : (List Grow) × Int) => [(0, .sl 3 0 (s112.1).length), (5, eI s112.2)]) (fun s112 => [(0, some ⟨3, (List.map Q3n s112.1), 0, 0x00a6⟩)]) .z (fun _ => .z)) .z) (fun s104 => .o (.pM 4 .z)))))))))))
end Go.Proofs.YtnackipaoepmfaaGreat
set_option linter.unusedSimpArgs false
set_option linter.unusedVariables false
namespace Go.Proofs.YtnackipaoepmfaaGreat
open Go Go.RowKit
set_option maxRecDepth 100000
set_option maxHeartbeats 20000000
set_option maxRecDepth 100000 in
theorem Z3h (p0 : (List Grow)) (res : (List Grow)) (h : Q1u p0 = some res) : J6 Tryz.prog 0o00445 [] [(.slice 3 (List.map Q3n p0))] (fun H d => H = [some ⟨3, List.map Q3n res, 0, 0x00a6⟩] ∧ d = .sl 3 0 res.length) := by
  unfold Q1u at h
  refine J6.of (res := [.tmp 2]) Q7c Tryz.func293 (by decide) rfl (Nat.le_of_ble_eq_true rfl) rfl rfl (fun β hβ => ?_)
  refine TrD.seq ?_
  refine TrD.regK Q7c (fun K hK => ?_)
  simp
  refine hK _ ?_
  refine TrD.seq ?_
  refine TrD.seq ?_
  refine TrD.regK Q7c (fun K hK => ?_)
  simp
  refine ⟨?_, fun hnil => ?_⟩
  · refine hK _ ?_
    refine TrD.cond (b := false) (by simp) (fun hb => by cases hb) (fun hb => ?_)
    refine TrD.skip ?_
    refine TrD.seq ?_
    obtain ⟨x3, hx3, h⟩ := bindE h
    have hx3_r := (Q86 hx3).2
    try simp only [List.length_append, List.length_cons, List.length_nil, List.length_map, Nat.zero_add, Nat.add_zero, Nat.reduceAdd, Z1m, Z1c] at hx3_r
    obtain hhx3 := Z7w hx3
    subst hhx3
    refine TrD.regK Q7c (fun K hK => ?_)
    simp [hx3_r]
    refine hK _ ?_
    obtain rfl := Option.some.inj h
    refine TrD.ret ?_
    refine Z4z (σ' := ⟨(updD (fun _ => .any) 2 (.sl 3 0 (p0).length)), hOfO [some ⟨3, (List.map Q3n p0), 0, 0x00a6⟩], 1, 8⟩) ?_ ?_
    · exact Y5.canonV 0 [40] _ _ hβ (Q5q (by decide)) (by decide) (Q8i (v_of (d0 := (.sl 3 40 (p0).length)) (by simp [hx3_r]) (v_sl rfl)) (Z4j _)) (.cons (lv (L := ⟨3, (List.map Q3n p0), 0, 0x00a6⟩) (by simp [hx3_r]) rfl rfl (by simp [hx3_r]) (Q5d (by simp [hx3_r]) (Q4 Z6y _))) .nil)
    · dsimp only [resD]
      exact ⟨[some ⟨3, (List.map Q3n p0), 0, 0x00a6⟩], [], rfl, by simp, by simp, .inl rfl, by simp [Q7v]⟩
  · replace h : some ([]) = some res := by simp only [hnil] at h; simpa [app] using h
    refine hK _ ?_
    refine TrD.cond (b := true) (by simp) (fun hb => ?_) (fun hb => by cases hb)
    refine TrD.seq ?_
    refine TrD.regK Q7c (fun K hK => ?_)
    simp
    refine hK _ ?_
    obtain rfl := Option.some.inj h
    refine TrD.ret ?_
    refine Z4z (σ' := ⟨(updD (fun _ => .any) 2 (.sl 3 0 0)), hOfO [some ⟨3, (List.map Q3n []), 0, 0x00a6⟩], 1, 8⟩) ?_ ?_
    · refine (Y5.ownNil (s := 2) (by simp) 3 0x00a6).trans ?_
      exact Y5.canonV 0 [32] _ _ hβ (Q5q (by decide)) (by decide) (Q8i (v_of (d0 := (.sl 3 32 0)) (by simp) (v_sl rfl)) (Z4j _)) (.cons (lv (L := ⟨3, (List.map Q3n []), 0, 0x00a6⟩) (by simp) rfl rfl (by simp) (Q5d (by simp) (Q4 Z6y _))) .nil)
    · dsimp only [resD]
      exact ⟨[some ⟨3, (List.map Q3n []), 0, 0x00a6⟩], [], rfl, by simp, by simp, .inl rfl, by simp [Q7v]⟩
instance X6p : ∀ (p0 : (List Grow)), Ct (Q1u p0) fun res => J6 Tryz.prog 0o00445 [] [(.slice 3 (List.map Q3n p0))] (fun H d => H = [some ⟨3, List.map Q3n res, 0, 0x00a6⟩] ∧ d = .sl 3 0 res.length) := fun p0 => ⟨Z3h p0⟩
end Go.Proofs.YtnackipaoepmfaaGreat
set_option linter.unusedSimpArgs false
set_option linter.unusedVariables false
namespace Go.Proofs.YtnackipaoepmfaaGreat
open Go Go.RowKit
set_option maxRecDepth 100000
set_option maxHeartbeats 20000000
instance X0i : ∀ (p0 : Grow) (q0 : Grow), Ct (J3 p0 q0) fun res => Z1 Tryz.prog 0o00446 [(.agg (Q3n p0)), .cptr (Q3n q0)] (fun d => d = (eB res)) :=
 au Tryz.func294 J3.eq_1 .z
end Go.Proofs.YtnackipaoepmfaaGreat
set_option linter.unusedSimpArgs false
set_option linter.unusedVariables false
namespace Go.Proofs.YtnackipaoepmfaaGreat
open Go Go.RowKit
set_option maxRecDepth 100000
set_option maxHeartbeats 20000000
instance Z8i : ∀ (n : Nat) (p0 : Z9) (p1 : (List Grow)) (p2 : (List Z6)) (p3 : Int), Ct (Y0 n p0 p1 p2 p3) fun res => J6 Tryz.prog 0o00337 [⟨4, [(Y2 p0)], 0, 0x00aa⟩] [.ptr 4 0 0 0, (.slice 3 (List.map Q3n p1)), (.slice 3 (List.map Q11 p2)), (eI p3)] (fun H d => H = [some ⟨4, [(Y2 res.2)], 0, 0x00aa⟩] ∧ d = (.slice 9 (List.map J7 res.1))) :=
 au Tryz.func223 Y0.eq_1 (.o (.o (.o (.o (.o (.o (.i (.g [0, 9, 10] [0, 57] [] [] (.o (.d [0, 1, 2, 3, 4, 5, 6, 7, 10, 8, 9] [0, 1] [] (.pN 9 9 0x00ea (.ls 35 (.f [9] [0, 10] [0, 9, 10, 35, 36, 37] [0, 10, 1] (fun (k182 : Nat) (s178 : (List Z0)) => [(9, .sl 9 10 (s178).length), (37, eI (k182 : Int))]) (fun k182 s178 => [(10, some ⟨9, (List.map J7 s178), 0, 0x00ea⟩)]) (fun k182 s178 => .o (.j 6 0 [0, 9, 10, 35, 36, 37] [0, 1, 2] (fun (s190 : (List Z0)) => [(9, .sl 9 1 (s190).length)]) (fun s190 => [(1, some ⟨9, (List.map J7 s190), 0, 0x00ea⟩)]) (.g [0, 9, 10, 12, 35, 36, 37] [0, 1, 2] [] [] (.o (.d [0, 1, 2, 3, 4, 5, 6, 7, 8, 9, 10, 11, 12, 13, 14, 15, 16, 17] [0, 2] [] .z))) (fun _ => .z))) (fun s186 => .pF 1 .z))))))) (.ls 1 (.f [9, 13] [0, 97] [3, 9, 13, 67, 68, 69] [0, 97] (fun (k286 : Nat) (s282 : (List Bool)) => [(69, eI (k286 : Int))]) (fun k286 s282 => [(97, some ⟨11, [(List.map cB s282)], 0, 0x0157⟩)]) (fun k286 s282 => .o (.j 15 0 [3, 9, 13, 67, 68, 69] [0, 1] (fun (s295 : (List Bool)) => []) (fun s295 => [(1, some ⟨11, [(List.map cB s295)], 0, 0x0157⟩)]) (.o (.i (.g [3, 9, 13, 16, 67, 68, 69] [0, 1, 82] [] [] (.o (.o (.d [0, 1, 2, 3, 4, 5, 6, 7, 8] [2] [] .z)))) .z)) (fun _ => .z))) (fun s290 => .pN 9 9 0x00ea (.w [9] [0, 18] [9, 13, 17, 18] [0, 18, 1] (fun (s374 : (List Z0) × Int × Int) => [(9, .sl 9 18 (s374.1).length), (17, eI s374.2.1), (18, eI s374.2.2)]) (fun s374 => [(18, some ⟨9, (List.map J7 s374.1), 0, 0x00ea⟩)]) (fun s374 => .i (.j 24 0 [9, 13, 17, 18] [0, 1, 2] (fun (s388 : (List Z0) × Int) => [(9, .sl 9 1 (s388.1).length), (17, eI s388.2)]) (fun s388 => [(1, some ⟨9, (List.map J7 s388.1), 0, 0x00ea⟩)]) .z (fun _ => .z)) .z) (fun s382 => .pF 1 .z))))))))))))
end Go.Proofs.YtnackipaoepmfaaGreat
set_option linter.unusedSimpArgs false
set_option linter.unusedVariables false
namespace Go.Proofs.YtnackipaoepmfaaGreat
open Go Go.RowKit
set_option maxRecDepth 100000
set_option maxHeartbeats 20000000
instance X0k : ∀ (n : Nat) (p0 : Z9) (p1 : (List Grow)) (p2 : (List Z6)), Ct (Q05 n p0 p1 p2) fun res => J6 Tryz.prog 0o00335 [⟨4, [(Y2 p0)], 0, 0x00aa⟩] [.ptr 4 0 0 0, (.slice 3 (List.map Q3n p1)), (.slice 3 (List.map Q11 p2))] (fun H d => H = [some ⟨4, [(Y2 res.2)], 0, 0x00aa⟩] ∧ d = (eI res.1)) :=
 au Tryz.func221 Q05.eq_1 (.o (.o (.o (.o (.ls 2 (.f [7] [0] [0, 1, 2, 7, 8, 14, 15] [0] (fun (k887 : Nat) (s883 : Z9 × Int × Int) => [(7, eI s883.2.1), (8, eI s883.2.2), (15, eI (k887 : Int))]) (fun k887 s883 => [(0, some ⟨4, [(Y2 s883.1)], 0, 0x00aa⟩)]) (fun k887 s883 => .o (.j 4 0 [0, 1, 2, 7, 8, 14, 15] [0] (fun (s976 : Z9 × Int × Int) => [(7, eI s976.2.1), (8, eI s976.2.2)]) (fun s976 => [(0, some ⟨4, [(Y2 s976.1)], 0, 0x00aa⟩)]) (.o (.o (.i .z (.j 7 0 [0, 1, 2, 7, 8, 9, 10, 14, 15] [0] (fun (s1020 : Z9 × Int) => [(10, eI s1020.2)]) (fun s1020 => [(0, some ⟨4, [(Y2 s1020.1)], 0, 0x00aa⟩)]) (.i (.ls 1 (.f [0, 1, 2, 7, 8, 9, 10, 14, 15] [0] [0, 1, 2, 7, 8, 9, 10, 14, 15, 33, 34, 35] [0] (fun (k1044 : Nat) (s1040 : Int) => [(10, eI s1040), (35, eI (k1044 : Int))]) (fun k1044 s1040 => []) (fun k1044 s1040 => .o (.j 11 0 [0, 1, 2, 7, 8, 9, 10, 14, 15, 33, 34, 35] [0] (fun (s1051 : Int) => [(10, eI s1051)]) (fun _ => []) .z (fun _ => .z))) (fun s1048 => .z))) .z) (fun _ => .z))))) (fun _ => .z))) (fun s891 => .z)))))))
end Go.Proofs.YtnackipaoepmfaaGreat
set_option linter.unusedSimpArgs false
set_option linter.unusedVariables false
namespace Go.Proofs.YtnackipaoepmfaaGreat
open Go Go.RowKit
set_option maxRecDepth 100000
set_option maxHeartbeats 20000000
theorem Q67 : ∀ n : Nat, (∀ (p0 : Z9) (p1 : (List Grow)) (p2 : (List Z6)), Ct (J2 n p0 p1 p2) fun res => J6 Tryz.prog 0o00172 [⟨4, [(Y2 p0)], 0, 0x00aa⟩] [.ptr 4 0 0 0, (.slice 3 (List.map Q3n p1)), (.slice 3 (List.map Q11 p2))] (fun H d => H = [some ⟨4, [(Y2 res.2.2)], 0, 0x00aa⟩] ∧ d = .tup [(.agg (Q2e res.1)), (eB res.2.1)])) ∧ (∀ (p0 : Z9) (p1 : (List Grow)) (p2 : (List Z6)), Ct (Q0w n p0 p1 p2) fun res => J6 Tryz.prog 0o00336 [⟨4, [(Y2 p0)], 0, 0x00aa⟩] [.ptr 4 0 0 0, (.slice 3 (List.map Q3n p1)), (.slice 3 (List.map Q11 p2))] (fun H d => H = [some ⟨4, [(Y2 res.2.2)], 0, 0x00aa⟩] ∧ d = .tup [(.agg (Q2e res.1)), (eB res.2.1)])) :=
 ar2 (au Tryz.func122 J2.eq_2 (.o (.o (.o (.o (.o (.o (.i .z (.i .z (.o (.i .z (.o (.b fun (r11 : ((List Int))) => .o (.pC 273 4 9 0x00ea (.ls 64 (.f [6, 9] [0, 1, 273, 258, 345] [0, 1, 2, 6, 8, 9, 64, 65, 66] [0, 1, 273, 258, 345] (fun (k1891 : Nat) (s1887 : Z9 × (List Z0)) => [(66, eI (k1891 : Int))]) (fun k1891 s1887 => [(0, some ⟨4, [(Y2 s1887.1)], 0, 0x00aa⟩), (1000000273, some ⟨6, [[(eI 2), (eI 0), .nil, (.sl 1 258 (r11).length), (.sl 9 345 (s1887.2).length), .nil]], 0, 0x0056⟩), (345, some ⟨9, (List.map J7 s1887.2), 0, 0x00ea⟩)]) (fun k1891 s1887 => .o (.j 14 0 [0, 1, 2, 6, 8, 9, 11, 12, 64, 65, 66] [0, 1, 2, 3, 4, 29, 9000] (fun (s2120 : (List Z6)) => [(12, .sl 3 9000 (s2120).length)]) (fun s2120 => [(1000000002, some ⟨6, [[(eI 2), (eI 0), .nil, (.sl 1 3 (r11).length), (.sl 9 4 (s1887.2).length), .nil]], 0, 0x0056⟩), (9000, some ⟨3, (List.map Q11 s2120), 0, 0x00ad⟩)]) (.i (.g [0, 1, 2, 6, 8, 9, 11, 12, 64, 65, 66] [0, 1, 2, 3, 4, 29] [] [(1000000002, some ⟨6, [[(eI 2), (eI 0), .nil, (.sl 1 3 (r11).length), (.sl 9 4 (s1887.2).length), .nil]], 0, 0x0056⟩)] (.o (.d [0, 1, 2, 3, 4, 5, 6, 7, 8, 9, 10, 11, 12, 13, 16, 14, 15] [0, 5] [] (.pN 12 3 0x00ad (.ls 87 (.f [0, 1, 2, 6, 8, 9, 11, 12, 64, 65, 66] [0, 1, 2, 3, 4, 5, 14] [0, 1, 2, 6, 8, 9, 11, 12, 64, 65, 66, 87, 88, 89] [0, 1, 2, 3, 4, 5, 14] (fun (k2152 : Nat) (s2148 : (List Z6)) => [(12, .sl 3 14 (s2148).length), (89, eI (k2152 : Int))]) (fun k2152 s2148 => [(1000000002, some ⟨6, [[(eI 2), (eI 0), .nil, (.sl 1 3 (r11).length), (.sl 9 4 (s1887.2).length), .nil]], 0, 0x0056⟩), (14, some ⟨3, (List.map Q11 s2148), 0, 0x00ad⟩)]) (fun k2152 s2148 => .o (.g [0, 1, 2, 6, 8, 9, 11, 12, 13, 14, 64, 65, 66, 87, 88, 89] [0, 1, 2, 3, 4, 5, 6, 39] [] [(1000000002, some ⟨6, [[(eI 2), (eI 0), .nil, (.sl 1 3 (r11).length), (.sl 9 4 (s1887.2).length), .nil]], 0, 0x0056⟩)] (.o (.o (.o (.dz [0, 1, 2, 3, 4, 5, 7, 10, 6, 8, 9, 11, 12, 13, 14] [7] [1048678] [] (.pF 2097160 .z))))))) (fun s2156 => .z))))))) (.pN 12 3 0x00ad .z)) (fun s2120 => .pF 6 (.pN 15 3 0x00a6 (.ls 1 (.f [0, 1, 2, 6, 8, 9, 11, 12, 15, 64, 65, 66] [0, 1, 2, 3, 4, 5, 6, 39] [0, 1, 2, 6, 8, 9, 11, 12, 15, 64, 65, 66, 109, 110, 111] [0, 1, 2, 3, 4, 5, 6, 39] (fun (k2243 : Nat) (s2239 : (List Grow)) => [(15, .sl 3 39 (s2239).length), (111, eI (k2243 : Int))]) (fun k2243 s2239 => [(1000000002, some ⟨6, [[(eI 2), (eI 0), .nil, (.sl 1 3 (r11).length), (.sl 9 4 (s1887.2).length), .nil]], 0, 0x0056⟩), (39, some ⟨3, (List.map Q3n s2239), 0, 0x00a6⟩)]) (fun k2243 s2239 => .o (.j 23 0 [0, 1, 2, 6, 8, 9, 11, 12, 15, 64, 65, 66, 109, 110, 111] [0, 1, 2, 3, 4, 5, 6, 7] (fun (s2251 : (List Grow)) => [(15, .sl 3 7 (s2251).length)]) (fun s2251 => [(1000000002, some ⟨6, [[(eI 2), (eI 0), .nil, (.sl 1 3 (r11).length), (.sl 9 4 (s1887.2).length), .nil]], 0, 0x0056⟩), (7, some ⟨3, (List.map Q3n s2251), 0, 0x00a6⟩)]) .z (fun _ => .z))) (fun s2247 => .pF 6 (.g [0, 1, 2, 6, 8, 9, 11, 12, 15, 64, 65, 66] [0, 1, 2, 3, 4, 5, 7] [(12, .slice 3 (List.map Q11 s2120))] [(1000000002, some ⟨6, [[(eI 2), (eI 0), .nil, (.sl 1 3 (r11).length), (.sl 9 4 (s1887.2).length), .nil]], 0, 0x0056⟩)] (.o (.o (.o (.o (.dz [0, 1, 2, 3, 4, 5, 6, 7, 8, 9, 10, 11, 12, 13, 14, 15, 16, 17, 18] [] [1048596] [] .z))))))))))))) (fun s1895 => .pF 3 (.pF 4 .z))))))))))))))))))
 (au Tryz.func222 Q0w.eq_2 (.o (.o (.o (.o (.o (.o (.b fun (x1 : Grow) => .g [0, 1, 2, 6, 8] [0, 1, 41] [] [] (.o (.dz [0, 1, 2, 3, 4, 5, 6, 7] [2] [1048585] [] (.b fun (r3 : ((List Q1))) => .o (.g [0, 1, 2, 6, 8, 9] [0, 1, 2, 1048585, 2097153] [] [(1001048585, some ⟨6, [[(eI 1), (eI x1.clause), (.sl 2 2097153 (r3).length), .nil, .nil, .nil]], 0, 0x0056⟩)] (.o (.d [0, 1, 2, 3, 4, 5, 6, 7, 8, 9, 10] [0, 2] [] (.i (.pF 4 .z) (.o (.o (.o (.pF 4 (.pF 133 .z))))))))))))))))))))
instance X2u : ∀ (n : Nat), ∀ (p0 : Z9) (p1 : (List Grow)) (p2 : (List Z6)), Ct (J2 n p0 p1 p2) fun res => J6 Tryz.prog 0o00172 [⟨4, [(Y2 p0)], 0, 0x00aa⟩] [.ptr 4 0 0 0, (.slice 3 (List.map Q3n p1)), (.slice 3 (List.map Q11 p2))] (fun H d => H = [some ⟨4, [(Y2 res.2.2)], 0, 0x00aa⟩] ∧ d = .tup [(.agg (Q2e res.1)), (eB res.2.1)]) :=
 fun n => (Q67 n).1
instance X2v : ∀ (n : Nat), ∀ (p0 : Z9) (p1 : (List Grow)) (p2 : (List Z6)), Ct (Q0w n p0 p1 p2) fun res => J6 Tryz.prog 0o00336 [⟨4, [(Y2 p0)], 0, 0x00aa⟩] [.ptr 4 0 0 0, (.slice 3 (List.map Q3n p1)), (.slice 3 (List.map Q11 p2))] (fun H d => H = [some ⟨4, [(Y2 res.2.2)], 0, 0x00aa⟩] ∧ d = .tup [(.agg (Q2e res.1)), (eB res.2.1)]) :=
 fun n => (Q67 n).2
end Go.Proofs.YtnackipaoepmfaaGreat
set_option linter.unusedSimpArgs false
set_option linter.unusedVariables false
namespace Go.Proofs.YtnackipaoepmfaaGreat
open Go Go.RowKit
set_option maxRecDepth 100000
set_option maxHeartbeats 20000000
instance W25 : ∀ (p0 : (List Q1)), Ct (Q3g p0) fun res => Z1 Tryz.prog 0o00342 [(.slice 2 (List.map Z2 p0))] (fun d => d = (.slice 2 (List.map Z2 res))) :=
 au Tryz.func226 Q3g.eq_1 (.o (.pN 3 2 0x010a (.ls 0 (.f [3] [40] [3, 6, 7, 8] [40] (fun (k56 : Nat) (s52 : (List Q1)) => [(3, .sl 2 40 (s52).length), (8, eI (k56 : Int))]) (fun k56 s52 => [(40, some ⟨2, (List.map Z2 s52), 0, 0x010a⟩)]) (fun k56 s52 => .o (.g [3, 5, 6, 7, 8] [0, 25] [] [] (.o (.o (.d [0, 1, 2, 3, 4, 5, 6, 7, 8, 9] [1] [] (.pF 3 .z)))))) (fun s60 => .z)))))
end Go.Proofs.YtnackipaoepmfaaGreat
set_option linter.unusedSimpArgs false
set_option linter.unusedVariables false
namespace Go.Proofs.YtnackipaoepmfaaGreat
open Go Go.RowKit
set_option maxRecDepth 100000
set_option maxHeartbeats 20000000
instance W4d : ∀ (n : Nat) (p0 : W5), Ct (Q1k n p0) fun res => Z1 Tryz.prog 0o00173 [(.agg (Q2e p0))] (fun d => d = (.agg (Q2e res))) :=
 ar (au Tryz.func123 Q1k.eq_2 (.o (.o (.b fun (p0 : W5) => .g [1, 2] [0, 8] [] [] (.b fun (r1 : ((List Q1))) => .b fun (r2 : ((List Int))) => .dz [0, 1, 2, 3, 4, 5, 7, 8, 6, 9, 10, 11, 12] [0] [1048579] [] (.pC 1048579 4 9 0x00ea (.ls 20 (.f [1, 2, 3] [0, 1, 1048579, 2097161, 2097208] [1, 2, 3, 20, 21, 22] [0, 1, 1048579, 2097161, 2097208] (fun (k58 : Nat) (s54 : (List Z0)) => [(22, eI (k58 : Int))]) (fun k58 s54 => [(1001048579, some ⟨6, [[(eI p0.op), (eI p0.clause), (.slice 2 (List.map Z2 r1)), (.sl 1 2097161 (r2).length), (.sl 9 2097208 (s54).length), .nil]], 0, 0x0056⟩), (2097208, some ⟨9, (List.map J7 s54), 0, 0x00ea⟩)]) (fun k58 s54 => .z) (fun s62 => .pC 2 5 6 0x0056 (.ls 38 (.f [2, 3] [1, 2, 3, 4, 37] [2, 3, 38, 39, 40] [1, 2, 3, 4, 37] (fun (k122 : Nat) (s118 : (List W5)) => [(40, eI (k122 : Int))]) (fun k122 s118 => [(1000000002, some ⟨6, [[(eI p0.op), (eI p0.clause), (.slice 2 (List.map Z2 r1)), (.sl 1 3 (r2).length), (.sl 9 4 (s62).length), (.sl 6 37 (s118).length)]], 0, 0x0056⟩), (37, some ⟨6, (List.map Q2e s118), 0, 0x0056⟩)]) (fun k122 s118 => .o (.g [2, 3, 7, 38, 39, 40] [0, 1, 2, 3, 4, 29] [] [(1000000001, some ⟨6, [[(eI p0.op), (eI p0.clause), (.slice 2 (List.map Z2 r1)), (.sl 1 2 (r2).length), (.sl 9 3 (s62).length), (.sl 6 4 (s118).length)]], 0, 0x0056⟩)] (.o (.o (.d [0, 1, 2, 3, 4, 5, 6, 7] [1, 5] [50] .z))))) (fun s126 => .z))))))))))))
end Go.Proofs.YtnackipaoepmfaaGreat
set_option linter.unusedSimpArgs false
set_option linter.unusedVariables false
namespace Go.Proofs.YtnackipaoepmfaaGreat
open Go Go.RowKit
set_option maxRecDepth 100000
set_option maxHeartbeats 20000000
instance X2w : ∀ (n : Nat) (p0 : (List Q3)) (p1 : Q5) (p2 : (List Q7)) (p3 : Int), Ct (Q02 n p0 p1 p2 p3) fun res => Z1 Tryz.prog 0o00070 [(.slice 2 (List.map V0 p0)), (.agg (W9 p1)), (.slice 9 (List.map V6 p2)), (eI p3)] (fun d => d = .tup [(.agg (Q2e res.1)), (eB res.2)]) :=
 au Tryz.func56 Q02.eq_1 (.o (.o (.o (.o (.o (.o (.i .z (.o (.i .z (.o (.i .z (.pN 12 3 0x00a6 (.ls 33 (.f [0, 2, 3, 5, 8, 12] [0, 8, 208] [0, 2, 3, 5, 8, 12, 38, 39, 40] [0, 8, 208] (fun (k381 : Nat) (s377 : (List Grow)) => [(12, .sl 3 208 (s377).length), (40, eI (k381 : Int))]) (fun k381 s377 => [(208, some ⟨3, (List.map Q3n s377), 0, 0x00a6⟩)]) (fun k381 s377 => .o (.ls 44 (.f [0, 2, 3, 5, 8, 12, 38, 39, 40] [0, 1, 2] [0, 2, 3, 5, 8, 12, 13, 38, 39, 40, 45, 46, 47] [0, 1, 2] (fun (k441 : Nat) (s437 : (List Grow)) => [(12, .sl 3 2 (s437).length), (47, eI (k441 : Int))]) (fun k441 s437 => [(2, some ⟨3, (List.map Q3n s437), 0, 0x00a6⟩)]) (fun k441 s437 => .o (.o (.o (.pF 76 .z)))) (fun s445 => .z)))) (fun s385 => .z)))))))))))))))
end Go.Proofs.YtnackipaoepmfaaGreat
set_option linter.unusedSimpArgs false
set_option linter.unusedVariables false
namespace Go.Proofs.YtnackipaoepmfaaGreat
open Go Go.RowKit
set_option maxRecDepth 100000
set_option maxHeartbeats 20000000
instance X9u : ∀ (n : Nat) (p0 : (List Q3)) (p1 : Q5) (p2 : Q2) (p3 : Int) (p4 : Bool) (p5 : Int), Ct (Q1w n p0 p1 p2 p3 p4 p5) fun res => J6 Tryz.prog 0o00237 [⟨1, [[(eI p5)]], 0, 0x0003⟩] [(.slice 2 (List.map V0 p0)), (.agg (W9 p1)), (.agg (W2 p2)), (eI p3), (eB p4), .ptr 1 0 0 0] (fun H d => H = [some ⟨1, [[(eI res.2)]], 0, 0x0003⟩] ∧ d = (eB res.1)) :=
 ar (au Tryz.func159 Q1w.eq_2 (.o (.o (.o (.o (.o (.o (.o (.o (.i .z (.i .z (.j 4 0 [0, 3, 4, 5, 7, 8] [0, 1, 9] (fun (s92 : Unit) => []) (fun _ => []) (.i (.i .z (.i .z (.g [0, 3, 4, 5, 7, 8] [0, 1, 9] [] [] (.i (.d [0, 1, 2, 3, 4, 5, 7, 8, 6, 9, 10, 11, 12] [2] [] .z) (.o (.o (.d [0, 1, 2, 3, 4, 5, 7, 8, 6, 9, 10, 11, 12] [1, 2] [] .z))))))) (.i .z (.g [0, 3, 4, 5, 7, 8] [0, 1, 9] [] [] (.i (.d [0, 1, 2, 3, 4, 5, 7, 8, 6, 9, 10, 11, 12] [2] [] .z) (.o (.o (.d [0, 1, 2, 3, 4, 5, 7, 8, 6, 9, 10, 11, 12] [1, 2] [] .z))))))) (fun s92 => .o (.i .z (.ls 84 (.f [] [0] [0, 3, 4, 5, 13, 88, 89, 90] [0] (fun (k244 : Nat) (s240 : Int) => [(90, eI (k244 : Int))]) (fun k244 s240 => [(0, some ⟨1, [[(eI s240)]], 0, 0x0003⟩)]) (fun k244 s240 => .o (.g [0, 3, 4, 5, 13, 14, 15, 88, 89, 90] [0, 33] [] [] (.o (.o (.d [0, 1, 2, 3, 4, 5, 6, 7, 8, 9, 10, 11] [1] [] .z))))) (fun s248 => .z)))))))))))))))))
end Go.Proofs.YtnackipaoepmfaaGreat
set_option linter.unusedSimpArgs false
set_option linter.unusedVariables false
namespace Go.Proofs.YtnackipaoepmfaaGreat
open Go Go.RowKit
set_option maxRecDepth 100000
set_option maxHeartbeats 20000000
instance W4b : ∀ (n : Nat) (p0 : (List Q3)) (p1 : Q5) (p2 : Q2), Ct (Q38 n p0 p1 p2) fun res => Z1 Tryz.prog 0o00112 [(.slice 2 (List.map V0 p0)), (.agg (W9 p1)), (.agg (W2 p2))] (fun d => d = (eB res)) :=
 au Tryz.func74 Q38.eq_1 .z
end Go.Proofs.YtnackipaoepmfaaGreat
set_option linter.unusedSimpArgs false
set_option linter.unusedVariables false
namespace Go.Proofs.YtnackipaoepmfaaGreat
open Go Go.RowKit
set_option maxRecDepth 100000
set_option maxHeartbeats 20000000
instance V0d : ∀ (p0 : Q2) (p1 : (List Int)), Ct (Q5h p0 p1) fun res => Z1 Tryz.prog 0o00274 [(.agg (W2 p0)), (.slice 1 (List.map rI p1))] (fun d => d = (.agg (W2 res))) :=
 au Tryz.func188 Q5h.eq_1 (.o (.o (.ls 1 (.f [2, 4] [0, 8] [2, 4, 7, 8, 9] [0, 8] (fun (k46 : Nat) (s42 : Q2) => [(9, eI (k46 : Int))]) (fun k46 s42 => [(0, some ⟨3, [(W2 s42)], 0, 0x002f⟩)]) (fun k46 s42 => .z) (fun s50 => .z)))))
end Go.Proofs.YtnackipaoepmfaaGreat
set_option linter.unusedSimpArgs false
set_option linter.unusedVariables false
namespace Go.Proofs.YtnackipaoepmfaaGreat
open Go Go.RowKit
set_option maxRecDepth 100000
set_option maxHeartbeats 20000000
instance W24 : ∀ (n : Nat) (p0 : Q2), Ct (Q1p n p0) fun res => Z1 Tryz.prog 0o00126 [(.agg (W2 p0))] (fun d => d = (.agg (W2 res))) :=
 ar (au Tryz.func86 Q1p.eq_2 (.o (.o (.b fun (p0 : Q2) => .pC 56 2 3 0x002f (.ls 12 (.f [2, 3] [8, 56, 104] [2, 3, 12, 13, 14] [8, 56, 104] (fun (k56 : Nat) (s52 : (List Q2)) => [(14, eI (k56 : Int))]) (fun k56 s52 => [(1000000056, some ⟨3, [[(eI p0.ctor), (eI p0.n), (.sl 3 104 (s52).length)]], 0, 0x002f⟩), (104, some ⟨3, (List.map W2 s52), 0, 0x002f⟩)]) (fun k56 s52 => .o (.g [2, 3, 5, 12, 13, 14] [0, 1, 2, 27] [] [(1000000001, some ⟨3, [[(eI p0.ctor), (eI p0.n), (.sl 3 2 (s52).length)]], 0, 0x002f⟩)] (.o (.o (.d [0, 1, 2, 3, 4, 5, 6, 7] [1, 3] [24] .z))))) (fun s60 => .z)))))))
end Go.Proofs.YtnackipaoepmfaaGreat
set_option linter.unusedSimpArgs false
set_option linter.unusedVariables false
namespace Go.Proofs.YtnackipaoepmfaaGreat
open Go Go.RowKit
set_option maxRecDepth 100000
set_option maxHeartbeats 20000000
instance W8o : ∀ (n : Nat) (p0 : (List Q1)) (p1 : Q2), Ct (Q5p n p0 p1) fun res => Z1 Tryz.prog 0o00300 [(.slice 2 (List.map Z2 p0)), (.agg (W2 p1))] (fun d => d = (.slice 4 (List.map Q0k res))) :=
 au Tryz.func192 Q5p.eq_1 (.o (.o (.o (.pN 5 4 0x007e (.ls 0 (.f [5] [48] [3, 5, 8, 9, 10] [0, 48] (fun (k66 : Nat) (s62 : (List X0)) => [(5, .sl 4 48 (s62).length), (10, eI (k66 : Int))]) (fun k66 s62 => [(48, some ⟨4, (List.map Q0k s62), 0, 0x007e⟩)]) (fun k66 s62 => .o (.g [3, 5, 7, 8, 9, 10] [0, 1, 26] [] [] (.o (.o (.o (.d [0, 1, 2, 3, 4, 5, 6, 7, 8, 9, 10, 11] [0, 2] [] .z)))))) (fun s70 => .z)))))))
end Go.Proofs.YtnackipaoepmfaaGreat
set_option linter.unusedSimpArgs false
set_option linter.unusedVariables false
namespace Go.Proofs.YtnackipaoepmfaaGreat
open Go Go.RowKit
set_option maxRecDepth 100000
set_option maxHeartbeats 20000000
instance X0f : ∀ (p0 : (List X0)) (p1 : (X0 → Option Bool)) {p1_f : FuncId} {p1_c : List D} [p1_i : CF1 (fun a0 => (.agg (Q0k a0))) (fun r => (eB r)) p1 p1_f p1_c], Ct (Q12 p0 p1) fun res => Z1 Tryz.prog 0o00376 [(.slice 4 (List.map Q0k p0)), .clos p1_f p1_c] (fun d => d = (eI res)) :=
 au Tryz.func254 Q12.eq_1 (.o (.o (.o (.o (.o (.ls 0 (.f [] [] [0, 1, 7, 8] [] (fun (k54 : Nat) (s50 : Unit) => [(8, eI (k54 : Int))]) (fun k54 s50 => []) (fun k54 s50 => .z) (fun s58 => .z))))))))
end Go.Proofs.YtnackipaoepmfaaGreat
set_option linter.unusedSimpArgs false
set_option linter.unusedVariables false
namespace Go.Proofs.YtnackipaoepmfaaGreat
open Go Go.RowKit
set_option maxRecDepth 100000
set_option maxHeartbeats 20000000
instance X50 : ∀ (p0 : X0) (q0 : Q2i), Ct (Q1f p0 q0) fun res => Z1 Tryz.prog 0o00377 [(.agg (Q0k p0)), .cptr (Q6t q0)] (fun d => d = (eB res)) :=
 au Tryz.func255 Q1f.eq_1 .z
end Go.Proofs.YtnackipaoepmfaaGreat
set_option linter.unusedSimpArgs false
set_option linter.unusedVariables false
namespace Go.Proofs.YtnackipaoepmfaaGreat
open Go Go.RowKit
set_option maxRecDepth 100000
set_option maxHeartbeats 20000000
instance X8q : ∀ (p0 : Q2i) (p1 : (List X0)), Ct (Q0a p0 p1) fun res => Z1 Tryz.prog 0o00241 [(.agg (Q6t p0)), (.slice 4 (List.map Q0k p1))] (fun d => d = (eB res)) :=
 au Tryz.func161 Q0a.eq_1 .z
end Go.Proofs.YtnackipaoepmfaaGreat
set_option linter.unusedSimpArgs false
set_option linter.unusedVariables false
namespace Go.Proofs.YtnackipaoepmfaaGreat
open Go Go.RowKit
set_option maxRecDepth 100000
set_option maxHeartbeats 20000000
instance Z8g : ∀ (p0 : (List Z0)) (p1 : (Z0 → Option Bool)) {p1_f : FuncId} {p1_c : List D} [p1_i : CF1 (fun a0 => (.agg (J7 a0))) (fun r => (eB r)) p1 p1_f p1_c], Ct (Q0q p0 p1) fun res => Z1 Tryz.prog 0o00275 [(.slice 9 (List.map J7 p0)), .clos p1_f p1_c] (fun d => d = (eI res)) :=
 au Tryz.func189 Q0q.eq_1 (.o (.o (.o (.o (.o (.ls 0 (.f [] [] [0, 1, 7, 8] [] (fun (k54 : Nat) (s50 : Unit) => [(8, eI (k54 : Int))]) (fun k54 s50 => []) (fun k54 s50 => .z) (fun s58 => .z))))))))
end Go.Proofs.YtnackipaoepmfaaGreat
set_option linter.unusedSimpArgs false
set_option linter.unusedVariables false
namespace Go.Proofs.YtnackipaoepmfaaGreat
open Go Go.RowKit
set_option maxRecDepth 100000
set_option maxHeartbeats 20000000
instance W4g : ∀ (p0 : Int) (p1 : Int) (p2 : Int) (p3 : Q2), Ct (Q6j p0 p1 p2 p3) fun res => Z1 Tryz.prog 0o00277 [(eI p0), (eI p1), (eI p2), (.agg (W2 p3))] (fun d => d = (eB res)) :=
 au Tryz.func191 Q6j.eq_1 .z
end Go.Proofs.YtnackipaoepmfaaGreat
set_option linter.unusedSimpArgs false
set_option linter.unusedVariables false
namespace Go.Proofs.YtnackipaoepmfaaGreat
open Go Go.RowKit
set_option maxRecDepth 100000
set_option maxHeartbeats 20000000
instance X9v : ∀ (p0 : Z0) (q0 : Q2), Ct (Q2n p0 q0) fun res => Z1 Tryz.prog 0o00276 [(.agg (J7 p0)), .cptr (W2 q0)] (fun d => d = (eB res)) :=
 au Tryz.func190 Q2n.eq_1 .z
end Go.Proofs.YtnackipaoepmfaaGreat
set_option linter.unusedSimpArgs false
set_option linter.unusedVariables false
namespace Go.Proofs.YtnackipaoepmfaaGreat
open Go Go.RowKit
set_option maxRecDepth 100000
set_option maxHeartbeats 20000000
instance W4c : ∀ (n : Nat) (p0 : W5) (p1 : (List Q7)) (p2 : Q2), Ct (Q55 n p0 p1 p2) fun res => Z1 Tryz.prog 0o00145 [(.agg (Q2e p0)), (.slice 9 (List.map V6 p1)), (.agg (W2 p2))] (fun d => d = .tup [(eI res.1), (.slice 4 (List.map Q0k res.2.1)), (eI res.2.2)]) :=
 au Tryz.func101 Q55.eq_1 (.o (.o (.o (.o (.w [] [] [1, 3, 5, 9] [0, 8] (fun (s34 : W5 × Int) => [(9, eI s34.2)]) (fun s34 => [(0, some ⟨6, [(Q2e s34.1)], 0, 0x0056⟩)]) (fun s34 => .z) (fun s42 => .z))))))
end Go.Proofs.YtnackipaoepmfaaGreat
set_option linter.unusedSimpArgs false
set_option linter.unusedVariables false
namespace Go.Proofs.YtnackipaoepmfaaGreat
open Go Go.RowKit
set_option maxRecDepth 100000
set_option maxHeartbeats 20000000
instance W4i : ∀ (n : Nat) (p0 : (List Q3)) (p1 : Q5) (p2 : (List Q7)) (p3 : Int) (p4 : Q2), Ct (Q3a n p0 p1 p2 p3 p4) fun res => Z1 Tryz.prog 0o00043 [(.slice 2 (List.map V0 p0)), (.agg (W9 p1)), (.slice 9 (List.map V6 p2)), (eI p3), (.agg (W2 p4))] (fun d => d = .tup [(eI res.1), (.slice 4 (List.map Q0k res.2.1)), (eI res.2.2)]) :=
 au Tryz.func35 Q3a.eq_1 .z
end Go.Proofs.YtnackipaoepmfaaGreat
