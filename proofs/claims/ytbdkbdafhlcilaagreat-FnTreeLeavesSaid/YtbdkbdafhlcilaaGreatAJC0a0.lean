import Derived.Test.YtbdkbdafhlcilaaGreatAJMir
import Derived.Test.YtbdkbdafhlcilaaGreatAJAuto
import Derived.Test.YtbdkbdafhlcilaaGreatAJAuI
set_option linter.unusedSimpArgs false
set_option linter.unusedVariables false
set_option linter.unusedSimpArgs false
set_option linter.unusedVariables false
namespace Go.Proofs.YtbdkbdafhlcilaaGreat
open Go Go.RowKit
set_option maxRecDepth 100000
set_option maxHeartbeats 20000000
instance V1c : ∀ (p0 : Q0) (p1 : Bool) (p2 : Bool) (p3 : Bool) (p4 : Int), Ct (Q3o p0 p1 p2 p3 p4) fun res => Z0 Tryz.prog 0o00445 [(.agg (Q1 p0)), (eB p1), (eB p2), (eB p3), (eI p4)] (fun d => d = (eB res)) :=
 au Tryz.func293 Q3o.eq_1 .z
end Go.Proofs.YtbdkbdafhlcilaaGreat
set_option linter.unusedSimpArgs false
set_option linter.unusedVariables false
namespace Go.Proofs.YtbdkbdafhlcilaaGreat
open Go Go.RowKit
set_option maxRecDepth 100000
set_option maxHeartbeats 20000000
instance W3k : ∀ (p0 : (List Q3)) (p1 : Q2) (p2 : Int), Ct (Q0x p0 p1 p2) fun res => Z0 Tryz.prog 0o00205 [(.slice 2 (List.map W3 p0)), (.agg (X0 p1)), (eI p2)] (fun d => d = (.slice 2 (List.map X0 res))) :=
 au Tryz.func133 Q0x.eq_1 (.o (.o (.o (.o (.o (.j 3 0 [7, 8] [88] (fun (s4 : Int) => [(8, eI s4)]) (fun _ => []) .z (fun s4 => .pN 9 2 0x0019 (.ls 28 (.f [9] [41] [8, 9, 28, 29, 30] [41] (fun (k103 : Nat) (s99 : (List Q2)) => [(9, .sl 2 41 (s99).length), (30, eI (k103 : Int))]) (fun k103 s99 => [(41, some ⟨2, (List.map X0 s99), 0, 0x0019⟩)]) (fun k103 s99 => .b fun (x104 : Q2) => .j 9 0 [8, 9, 11, 28, 29, 30] [0, 25] (fun (s115 : Int) => []) (fun s115 => [(25, some ⟨2, [[(eI x104.data), (eI s115)]], 0, 0x0019⟩)]) .z (fun _ => .z)) (fun s107 => .z))))))))))
end Go.Proofs.YtbdkbdafhlcilaaGreat
set_option linter.unusedSimpArgs false
set_option linter.unusedVariables false
namespace Go.Proofs.YtbdkbdafhlcilaaGreat
open Go Go.RowKit
set_option maxRecDepth 100000
set_option maxHeartbeats 20000000
instance W39 : ∀ (p0 : Q75) (p1 : Int), Ct (Q7z p0 p1) fun res => Z0 Tryz.prog 0o00267 [(.agg (Q68 p0)), (eI p1)] (fun d => d = (eI res)) :=
 au Tryz.func183 Q7z.eq_1 .z
end Go.Proofs.YtbdkbdafhlcilaaGreat
set_option linter.unusedSimpArgs false
set_option linter.unusedVariables false
namespace Go.Proofs.YtbdkbdafhlcilaaGreat
open Go Go.RowKit
set_option maxRecDepth 100000
set_option maxHeartbeats 20000000
instance W9r : ∀ (p0 : Int) (p1 : Q2), Ct (Q8l p0 p1) fun res => Z0 Tryz.prog 0o00361 [(eI p0), (.agg (X0 p1))] (fun d => d = (eB res)) :=
 au Tryz.func241 Q8l.eq_1 .z
end Go.Proofs.YtbdkbdafhlcilaaGreat
set_option linter.unusedSimpArgs false
set_option linter.unusedVariables false
namespace Go.Proofs.YtbdkbdafhlcilaaGreat
open Go Go.RowKit
set_option maxRecDepth 100000
set_option maxHeartbeats 20000000
instance W7p : ∀ (n : Nat) (p0 : Int), Ct (Q6g n p0) fun res => Z0 Tryz.prog 0o00472 [(eI p0)] (fun d => d = (eS res)) :=
 ar (au Tryz.func314 Q6g.eq_2 (.o (.o (.o (.i .z (.i .z (.w [0, 3] [] [0, 3] [] (fun (s18 : Int × ByteArray) => [(0, eI s18.1), (3, eS s18.2)]) (fun s18 => []) (fun s18 => .z) (fun s26 => .z))))))))
end Go.Proofs.YtbdkbdafhlcilaaGreat
set_option linter.unusedSimpArgs false
set_option linter.unusedVariables false
namespace Go.Proofs.YtbdkbdafhlcilaaGreat
open Go Go.RowKit
set_option maxRecDepth 100000
set_option maxHeartbeats 20000000
instance W5f : Ct (Q4l) fun res => Z0 Tryz.prog 0o00347 [] (fun d => d = (.slice 1 (List.map rS res))) :=
 au Tryz.func231 Q4l.eq_1 .z
end Go.Proofs.YtbdkbdafhlcilaaGreat
set_option linter.unusedSimpArgs false
set_option linter.unusedVariables false
namespace Go.Proofs.YtbdkbdafhlcilaaGreat
open Go Go.RowKit
set_option maxRecDepth 100000
set_option maxHeartbeats 20000000
instance X4x : ∀ (p1 : Int), Ct (Q28 p1) fun res => J1 Tryz.prog 0o00321 [] [.nil, (eI p1)] (fun H d => H = [some ⟨3, List.map Q1b res, 0, 0x006f⟩] ∧ d = .sl 3 0 res.length) :=
 au Tryz.func209 Q28.eq_1 (.o (.i .z (.j 3 0 [0] [9000] (fun (s6 : Unit) => [(0, .sl 3 9000 0)]) (fun _ => [(9000, some ⟨3, (List.map Q1b []), 0, 0x006f⟩)]) (.i (.o (.o (.pS 144 0 Q1b ([] : List Z3) .z))) (.pN 0 3 0x006f .z)) (fun _ => .z))))
end Go.Proofs.YtbdkbdafhlcilaaGreat
set_option linter.unusedSimpArgs false
set_option linter.unusedVariables false
namespace Go.Proofs.YtbdkbdafhlcilaaGreat
open Go Go.RowKit
set_option maxRecDepth 100000
set_option maxHeartbeats 20000000
instance X9g : ∀ (p0 : Int), Ct (Q6r p0) fun res => Z0 Tryz.prog 0o00430 [(.val (.int .u64 p0))] (fun d => d = (eI res)) :=
 au Tryz.func280 Q6r.eq_1 (.o (.j 1 0 [0, 2] [] (fun (s2 : Int × Int) => [(0, .val (.int .u64 s2.1)), (2, eI s2.2)]) (fun _ => []) .z (fun s2 => .j 4 0 [0, 2] [] (fun (s7 : Int × Int) => [(0, .val (.int .u64 s7.1)), (2, eI s7.2)]) (fun _ => []) .z (fun s7 => .j 7 0 [0, 2] [] (fun (s12 : Int × Int) => [(0, .val (.int .u64 s12.1)), (2, eI s12.2)]) (fun _ => []) .z (fun _ => .z)))))
end Go.Proofs.YtbdkbdafhlcilaaGreat
set_option linter.unusedSimpArgs false
set_option linter.unusedVariables false
namespace Go.Proofs.YtbdkbdafhlcilaaGreat
open Go Go.RowKit
set_option maxRecDepth 100000
set_option maxHeartbeats 20000000
instance X1q : ∀ (p0 : (List Grow)) (p1 : (Grow → Option Bool)) {p1_f : FuncId} {p1_c : List D} [p1_i : CF1 (fun a0 => (.agg (Q47 a0))) (fun r => (eB r)) p1 p1_f p1_c], Ct (Q1i p0 p1) fun res => Z0 Tryz.prog 0o00373 [(.slice 3 (List.map Q47 p0)), .clos p1_f p1_c] (fun d => d = (eI res)) :=
 au Tryz.func251 Q1i.eq_1 (.o (.o (.o (.o (.o (.ls 0 (.f [] [] [0, 1, 7, 8] [] (fun (k54 : Nat) (s50 : Unit) => [(8, eI (k54 : Int))]) (fun k54 s50 => []) (fun k54 s50 => .z) (fun s58 => .z))))))))
end Go.Proofs.YtbdkbdafhlcilaaGreat
set_option linter.unusedSimpArgs false
set_option linter.unusedVariables false
namespace Go.Proofs.YtbdkbdafhlcilaaGreat
open Go Go.RowKit
set_option maxRecDepth 100000
set_option maxHeartbeats 20000000
set_option maxRecDepth 100000 in
theorem Z3y (p0 : (List Grow)) (res : (List Grow)) (h : Q21 p0 = some res) : J1 Tryz.prog 0o00317 [] [(.slice 3 (List.map Q47 p0))] (fun H d => H = [some ⟨3, List.map Q47 res, 0, 0x0066⟩] ∧ d = .sl 3 0 res.length) := by
  unfold Q21 at h
  refine J1.of (res := [.tmp 2]) Q7s Tryz.func207 (by decide) rfl (Nat.le_of_ble_eq_true rfl) rfl rfl (fun β hβ => ?_)
  refine TrD.seq ?_
  refine TrD.regK Q7s (fun K hK => ?_)
  simp
  refine hK _ ?_
  refine TrD.seq ?_
  refine TrD.seq ?_
  refine TrD.regK Q7s (fun K hK => ?_)
  simp
  refine ⟨?_, fun hnil => ?_⟩
  · refine hK _ ?_
    refine TrD.cond (b := false) (by simp) (fun hb => by cases hb) (fun hb => ?_)
    refine TrD.skip ?_
    refine TrD.seq ?_
    obtain ⟨x3, hx3, h⟩ := bindE h
    have hx3_r := (Q8q hx3).2
    try simp only [List.length_append, List.length_cons, List.length_nil, List.length_map, Nat.zero_add, Nat.add_zero, Nat.reduceAdd, Z27, Z20] at hx3_r
    obtain hhx3 := Z8m hx3
    subst hhx3
    refine TrD.regK Q7s (fun K hK => ?_)
    simp [hx3_r]
    refine hK _ ?_
    obtain rfl := Option.some.inj h
    refine TrD.ret ?_
    refine Z5h (σ' := ⟨(updD (fun _ => .any) 2 (.sl 3 0 (p0).length)), hOfO [some ⟨3, (List.map Q47 p0), 0, 0x0066⟩], 1, 8⟩) ?_ ?_
    · exact Y1.canonV 0 [40] _ _ hβ (Q61 (by decide)) (by decide) (Q91 (v_of (d0 := (.sl 3 40 (p0).length)) (by simp [hx3_r]) (v_sl rfl)) (Z50 _)) (.cons (lv (L := ⟨3, (List.map Q47 p0), 0, 0x0066⟩) (by simp [hx3_r]) rfl rfl (by simp [hx3_r]) (Q5s (by simp [hx3_r]) (Q7 Z7n _))) .nil)
    · dsimp only [resD]
      exact ⟨[some ⟨3, (List.map Q47 p0), 0, 0x0066⟩], [], rfl, by simp, by simp, .inl rfl, by simp [Q8e]⟩
  · replace h : some ([]) = some res := by simp only [hnil] at h; simpa [app] using h
    refine hK _ ?_
    refine TrD.cond (b := true) (by simp) (fun hb => ?_) (fun hb => by cases hb)
    refine TrD.seq ?_
    refine TrD.regK Q7s (fun K hK => ?_)
    simp
    refine hK _ ?_
    obtain rfl := Option.some.inj h
    refine TrD.ret ?_
    refine Z5h (σ' := ⟨(updD (fun _ => .any) 2 (.sl 3 0 0)), hOfO [some ⟨3, (List.map Q47 []), 0, 0x0066⟩], 1, 8⟩) ?_ ?_
    · refine (Y1.ownNil (s := 2) (by simp) 3 0x0066).trans ?_
      exact Y1.canonV 0 [32] _ _ hβ (Q61 (by decide)) (by decide) (Q91 (v_of (d0 := (.sl 3 32 0)) (by simp) (v_sl rfl)) (Z50 _)) (.cons (lv (L := ⟨3, (List.map Q47 []), 0, 0x0066⟩) (by simp) rfl rfl (by simp) (Q5s (by simp) (Q7 Z7n _))) .nil)
    · dsimp only [resD]
      exact ⟨[some ⟨3, (List.map Q47 []), 0, 0x0066⟩], [], rfl, by simp, by simp, .inl rfl, by simp [Q8e]⟩
instance X7o : ∀ (p0 : (List Grow)), Ct (Q21 p0) fun res => J1 Tryz.prog 0o00317 [] [(.slice 3 (List.map Q47 p0))] (fun H d => H = [some ⟨3, List.map Q47 res, 0, 0x0066⟩] ∧ d = .sl 3 0 res.length) := fun p0 => ⟨Z3y p0⟩
end Go.Proofs.YtbdkbdafhlcilaaGreat
set_option linter.unusedSimpArgs false
set_option linter.unusedVariables false
namespace Go.Proofs.YtbdkbdafhlcilaaGreat
open Go Go.RowKit
set_option maxRecDepth 100000
set_option maxHeartbeats 20000000
instance X0x : ∀ (p0 : Grow) (q0 : Grow), Ct (Y9 p0 q0) fun res => Z0 Tryz.prog 0o00320 [(.agg (Q47 p0)), .cptr (Q47 q0)] (fun d => d = (eB res)) :=
 au Tryz.func208 Y9.eq_1 .z
end Go.Proofs.YtbdkbdafhlcilaaGreat
set_option linter.unusedSimpArgs false
set_option linter.unusedVariables false
namespace Go.Proofs.YtbdkbdafhlcilaaGreat
open Go Go.RowKit
set_option maxRecDepth 100000
set_option maxHeartbeats 20000000
instance W51 : ∀ (p0 : V1), Ct (Q3g p0) fun res => Z0 Tryz.prog 0o00323 [(.agg (Q1w p0))] (fun d => d = (eI res)) :=
 au Tryz.func211 Q3g.eq_1 (.b fun (p0 : V1) => .lc 0 1 6 Q1 p0.pats (.f [] [] [1, 3] [0] (fun (k44 : Nat) (s40 : Unit) => [(3, eI (k44 : Int))]) (fun k44 s40 => []) (fun k44 s40 => .z) (fun s48 => .z)))
end Go.Proofs.YtbdkbdafhlcilaaGreat
set_option linter.unusedSimpArgs false
set_option linter.unusedVariables false
namespace Go.Proofs.YtbdkbdafhlcilaaGreat
open Go Go.RowKit
set_option maxRecDepth 100000
set_option maxHeartbeats 20000000
instance W53 : ∀ (n : Nat) (p0 : (List Q4)), Ct (Q3i n p0) fun res => Z0 Tryz.prog 0o00324 [(.slice 2 (List.map Z2 p0))] (fun d => d = (.slice 2 (List.map Z2 res))) :=
 au Tryz.func212 Q3i.eq_1 (.o (.o (.w [3] [8] [0, 3, 4] [8] (fun (s496 : (List Q4) × Int) => [(3, .sl 2 8 (s496.1).length), (4, eI s496.2)]) (fun s496 => [(8, some ⟨2, (List.map Z2 s496.1), 0, 0x0073⟩)]) (fun s496 => .i (.ls 0 (.f [0, 3, 4] [0] [0, 3, 4, 5] [0] (fun (k587 : Nat) (s583 : (List Q4)) => [(3, .sl 2 0 (s583).length), (5, eI (k587 : Int))]) (fun k587 s583 => [(0, some ⟨2, (List.map Z2 s583), 0, 0x0073⟩)]) (fun k587 s583 => .o (.j 8 0 [0, 3, 4, 5] [0] (fun (s595 : (List Q4)) => [(3, .sl 2 0 (s595).length)]) (fun s595 => [(0, some ⟨2, (List.map Z2 s595), 0, 0x0073⟩)]) (.i (.o (.o (.pF 153 .z))) .z) (fun _ => .z))) (fun s591 => .z))) .z) (fun s504 => .z))))
end Go.Proofs.YtbdkbdafhlcilaaGreat
