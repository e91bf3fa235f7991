import Derived.Test.YtbdkbdafhlcilaaGreatBJMir
import Derived.Test.YtbdkbdafhlcilaaGreatBJAuto
import Derived.Test.YtbdkbdafhlcilaaGreatBJAuI
set_option linter.unusedSimpArgs false
set_option linter.unusedVariables false
set_option linter.unusedSimpArgs false
set_option linter.unusedVariables false
namespace Go.Proofs.YtbdkbdafhlcilaaGreat
open Go Go.RowKit
set_option maxRecDepth 100000
set_option maxHeartbeats 20000000
instance W7f : ∀ (p0 : Int) (p1 : Int) (p2 : Int), Ct (V7 p0 p1 p2) fun res => Z1 Tryz.prog 0o00072 [(eI p0), (eI p1), (eI p2)] (fun d => d = (eB res)) :=
 au Tryz.func58 V7.eq_1 .z
end Go.Proofs.YtbdkbdafhlcilaaGreat
set_option linter.unusedSimpArgs false
set_option linter.unusedVariables false
namespace Go.Proofs.YtbdkbdafhlcilaaGreat
open Go Go.RowKit
set_option maxRecDepth 100000
set_option maxHeartbeats 20000000
instance Z7y : ∀ (p0 : (List Q9)) (p1 : (Q9 → Option Bool)) {p1_f : FuncId} {p1_c : List D} [p1_i : CF1 (fun a0 => (.agg (V5 a0))) (fun r => (eB r)) p1 p1_f p1_c], Ct (Q2s p0 p1) fun res => Z1 Tryz.prog 0o00473 [(.slice 3 (List.map V5 p0)), .clos p1_f p1_c] (fun d => d = (eI res)) :=
 au Tryz.func315 Q2s.eq_1 (.o (.o (.o (.o (.o (.ls 0 (.f [] [] [0, 1, 7, 8] [] (fun (k54 : Nat) (s50 : Unit) => [(8, eI (k54 : Int))]) (fun k54 s50 => []) (fun k54 s50 => .z) (fun s58 => .z))))))))
end Go.Proofs.YtbdkbdafhlcilaaGreat
set_option linter.unusedSimpArgs false
set_option linter.unusedVariables false
namespace Go.Proofs.YtbdkbdafhlcilaaGreat
open Go Go.RowKit
set_option maxRecDepth 100000
set_option maxHeartbeats 20000000
set_option maxRecDepth 100000 in
theorem Z3e (p0 : (List Int)) (res : (List Int)) (h : Q04 p0 = some res) : J8 Tryz.prog 0o00176 [] [(.slice 1 (List.map rI p0))] (fun H d => H = [some ⟨1, List.map rI res, 0, 0x0003⟩] ∧ d = .sl 1 0 res.length) := by
  unfold Q04 at h
  refine J8.of (res := [.tmp 2]) Q7p Tryz.func126 (by decide) rfl (Nat.le_of_ble_eq_true rfl) rfl rfl (fun β hβ => ?_)
  refine TrD.seq ?_
  refine TrD.regK Q7p (fun K hK => ?_)
  simp
  refine hK _ ?_
  refine TrD.seq ?_
  refine TrD.seq ?_
  refine TrD.regK Q7p (fun K hK => ?_)
  simp
  refine ⟨?_, fun hnil => ?_⟩
  · refine hK _ ?_
    refine TrD.cond (b := false) (by simp) (fun hb => by cases hb) (fun hb => ?_)
    refine TrD.skip ?_
    refine TrD.seq ?_
    obtain ⟨x3, hx3, h⟩ := bindE h
    have hx3_r := (Q7g hx3).2
    try simp only [List.length_append, List.length_cons, List.length_nil, List.length_map, Nat.zero_add, Nat.add_zero, Nat.reduceAdd, Z1p, Z1h] at hx3_r
    obtain hhx3 := Z4d hx3
    subst hhx3
    refine TrD.regK Q7p (fun K hK => ?_)
    simp [hx3_r]
    refine hK _ ?_
    obtain rfl := Option.some.inj h
    refine TrD.ret ?_
    refine Z1f (σ' := ⟨(updD (fun _ => .any) 2 (.sl 1 0 (p0).length)), hOfO [some ⟨1, (List.map rI p0), 0, 0x0003⟩], 1, 8⟩) ?_ ?_
    · exact Y2.canonV 0 [40] _ _ hβ (Q5u (by decide)) (by decide) (Q8p (v_of (d0 := (.sl 1 40 (p0).length)) (by simp [hx3_r]) (v_sl rfl)) (Z4h _)) (.cons (lv (L := ⟨1, (List.map rI p0), 0, 0x0003⟩) (by simp [hx3_r]) rfl rfl (by simp [hx3_r]) (Q5i (by simp [hx3_r]) (Q7 (fun _ => by simp) _))) .nil)
    · dsimp only [resD]
      exact ⟨[some ⟨1, (List.map rI p0), 0, 0x0003⟩], [], rfl, by simp, by simp, .inl rfl, by simp [Q87]⟩
  · replace h : some ([]) = some res := by simp only [hnil] at h; simpa [app] using h
    refine hK _ ?_
    refine TrD.cond (b := true) (by simp) (fun hb => ?_) (fun hb => by cases hb)
    refine TrD.seq ?_
    refine TrD.regK Q7p (fun K hK => ?_)
    simp
    refine hK _ ?_
    obtain rfl := Option.some.inj h
    refine TrD.ret ?_
    refine Z1f (σ' := ⟨(updD (fun _ => .any) 2 (.sl 1 0 0)), hOfO [some ⟨1, (List.map rI []), 0, 0x0003⟩], 1, 8⟩) ?_ ?_
    · refine (Y2.ownNil (s := 2) (by simp) 1 0x0003).trans ?_
      exact Y2.canonV 0 [32] _ _ hβ (Q5u (by decide)) (by decide) (Q8p (v_of (d0 := (.sl 1 32 0)) (by simp) (v_sl rfl)) (Z4h _)) (.cons (lv (L := ⟨1, (List.map rI []), 0, 0x0003⟩) (by simp) rfl rfl (by simp) (Q5i (by simp) (Q7 (fun _ => by simp) _))) .nil)
    · dsimp only [resD]
      exact ⟨[some ⟨1, (List.map rI []), 0, 0x0003⟩], [], rfl, by simp, by simp, .inl rfl, by simp [Q87]⟩
instance X78 : ∀ (p0 : (List Int)), Ct (Q04 p0) fun res => J8 Tryz.prog 0o00176 [] [(.slice 1 (List.map rI p0))] (fun H d => H = [some ⟨1, List.map rI res, 0, 0x0003⟩] ∧ d = .sl 1 0 res.length) := fun p0 => ⟨Z3e p0⟩
end Go.Proofs.YtbdkbdafhlcilaaGreat
set_option linter.unusedSimpArgs false
set_option linter.unusedVariables false
namespace Go.Proofs.YtbdkbdafhlcilaaGreat
open Go Go.RowKit
set_option maxRecDepth 100000
set_option maxHeartbeats 20000000
instance X98 : Ct (Q2b) fun res => Z1 Tryz.prog 0o00177 [] (fun d => d = (.agg (Q8 res))) :=
 au Tryz.func127 Q2b.eq_1 .z
end Go.Proofs.YtbdkbdafhlcilaaGreat
set_option linter.unusedSimpArgs false
set_option linter.unusedVariables false
namespace Go.Proofs.YtbdkbdafhlcilaaGreat
open Go Go.RowKit
set_option maxRecDepth 100000
set_option maxHeartbeats 20000000
instance Z0x : ∀ (n : Nat) (p0 : (List Q2)) (p1 : Int) (p2 : Int) (p3 : (Q2 → Q2 → Option Int)) {p3_f : FuncId} {p3_c : List D} [p3_i : CF2 (fun a0 => (.agg (Z3 a0))) (fun a1 => (.agg (Z3 a1))) (fun r => (eI r)) p3 p3_f p3_c], Ct (V2 n p0 p1 p2 p3) fun res => J8 Tryz.prog 0o00435 [⟨2, List.map Z3 p0, 0, 0x0073⟩] [.sl 2 0 p0.length, (eI p1), (eI p2), .clos p3_f p3_c] (fun H d => H = [some ⟨2, List.map Z3 res, 0, 0x0073⟩] ∧ d = .tup []) :=
 au Tryz.func285 V2.eq_1 (.o (.o (.o (.o (.o (.o (.o (.o (.w [] [0] [0, 1, 2, 3, 8] [0] (fun (s464 : (List Q2) × Int) => [(0, .sl 2 0 (s464.1).length), (8, eI s464.2)]) (fun s464 => [(0, some ⟨2, (List.map Z3 s464.1), 0, 0x0073⟩)]) (fun s464 => .i (.w [0, 1, 2, 3, 8] [0] [0, 1, 2, 3, 8, 9] [0] (fun (s660 : (List Q2) × Int) => [(0, .sl 2 0 (s660.1).length), (9, eI s660.2)]) (fun s660 => [(0, some ⟨2, (List.map Z3 s660.1), 0, 0x0073⟩)]) (fun s660 => .g [0, 1, 2, 3, 8, 9] [0] [] [] (.i (.o (.o (.o (.d [0, 1, 2, 3, 4, 5, 6, 7, 8, 9, 10, 11, 12, 13, 14, 15, 16] [0] [] (.i (.g [0, 1, 2, 3, 8, 9] [0] [] [] (.o (.o (.o (.d [0, 1, 2, 3, 4, 5, 6, 7, 8, 9, 10, 11, 12, 13, 14, 15, 16, 17] [0] [51, 52] .z))))) .z))))) (.d [0, 1, 2, 3, 4, 5, 6, 7, 8, 9, 10, 11, 12, 13, 14, 15, 16] [] [] .z))) (fun s668 => .z)) .z) (fun s472 => .z))))))))))
end Go.Proofs.YtbdkbdafhlcilaaGreat
set_option linter.unusedSimpArgs false
set_option linter.unusedVariables false
namespace Go.Proofs.YtbdkbdafhlcilaaGreat
open Go Go.RowKit
set_option maxRecDepth 100000
set_option maxHeartbeats 20000000
instance W2v : ∀ (n : Nat) (p0 : Q1), Ct (Q1p n p0) fun res => Z1 Tryz.prog 0o00132 [(.agg (X0 p0))] (fun d => d = (.agg (X0 res))) :=
 ar (au Tryz.func90 Q1p.eq_2 (.o (.o (.b fun (p0 : Q1) => .pC 56 2 3 0x0038 (.ls 12 (.f [2, 3] [8, 56, 104] [2, 3, 12, 13, 14] [8, 56, 104] (fun (k56 : Nat) (s52 : (List Q1)) => [(14, eI (k56 : Int))]) (fun k56 s52 => [(1000000056, some ⟨3, [[(eI p0.ctor), (eI p0.n), (.sl 3 104 (s52).length)]], 0, 0x0038⟩), (104, some ⟨3, (List.map X0 s52), 0, 0x0038⟩)]) (fun k56 s52 => .o (.g [2, 3, 5, 12, 13, 14] [0, 1, 2, 27] [] [(1000000001, some ⟨3, [[(eI p0.ctor), (eI p0.n), (.sl 3 2 (s52).length)]], 0, 0x0038⟩)] (.o (.o (.d [0, 1, 2, 3, 4, 5, 6, 7] [1, 3] [24] .z))))) (fun s60 => .z)))))))
end Go.Proofs.YtbdkbdafhlcilaaGreat
set_option linter.unusedSimpArgs false
set_option linter.unusedVariables false
namespace Go.Proofs.YtbdkbdafhlcilaaGreat
open Go Go.RowKit
set_option maxRecDepth 100000
set_option maxHeartbeats 20000000
instance W4g : ∀ (p0 : V4), Ct (Q3a p0) fun res => Z1 Tryz.prog 0o00323 [(.agg (Q1n p0))] (fun d => d = (eI res)) :=
 au Tryz.func211 Q3a.eq_1 (.b fun (p0 : V4) => .lc 0 1 6 Q8 p0.pats (.f [] [] [1, 3] [0] (fun (k44 : Nat) (s40 : Unit) => [(3, eI (k44 : Int))]) (fun k44 s40 => []) (fun k44 s40 => .z) (fun s48 => .z)))
end Go.Proofs.YtbdkbdafhlcilaaGreat
set_option linter.unusedSimpArgs false
set_option linter.unusedVariables false
namespace Go.Proofs.YtbdkbdafhlcilaaGreat
open Go Go.RowKit
set_option maxRecDepth 100000
set_option maxHeartbeats 20000000
instance W4f : ∀ (p0 : (List V4)) (p1 : Int), Ct (Q39 p0 p1) fun res => Z1 Tryz.prog 0o00325 [(.slice 3 (List.map Q1n p0)), (eI p1)] (fun d => d = (.slice 3 (List.map Q1n res))) :=
 au Tryz.func213 Q39.eq_1 (.o (.o (.ls 0 (.f [5] [8] [0, 1, 5, 6] [8] (fun (k71 : Nat) (s67 : (List V4)) => [(5, .sl 3 8 (s67).length), (6, eI (k71 : Int))]) (fun k71 s67 => [(8, some ⟨3, (List.map Q1n s67), 0, 0x0109⟩)]) (fun k71 s67 => .o (.j 5 0 [0, 1, 5, 6] [0] (fun (s78 : (List V4)) => [(5, .sl 3 0 (s78).length)]) (fun s78 => [(0, some ⟨3, (List.map Q1n s78), 0, 0x0109⟩)]) .z (fun _ => .z))) (fun s75 => .z)))))
end Go.Proofs.YtbdkbdafhlcilaaGreat
set_option linter.unusedSimpArgs false
set_option linter.unusedVariables false
namespace Go.Proofs.YtbdkbdafhlcilaaGreat
open Go Go.RowKit
set_option maxRecDepth 100000
set_option maxHeartbeats 20000000
instance W6q : ∀ (p0 : Q0) (p1 : Z0), Ct (Q63 p0 p1) fun res => Z1 Tryz.prog 0o00400 [(.agg (Q8 p0)), (.agg (J1 p1))] (fun d => d = (eB res)) :=
 au Tryz.func256 Q63.eq_1 .z
end Go.Proofs.YtbdkbdafhlcilaaGreat
set_option linter.unusedSimpArgs false
set_option linter.unusedVariables false
namespace Go.Proofs.YtbdkbdafhlcilaaGreat
open Go Go.RowKit
set_option maxRecDepth 100000
set_option maxHeartbeats 20000000
instance W6z : ∀ (p0 : (List Q9)) (p1 : Int), Ct (Q2y p0 p1) fun res => Z1 Tryz.prog 0o00362 [(.slice 3 (List.map V5 p0)), (eI p1)] (fun d => d = (eI res)) :=
 au Tryz.func242 Q2y.eq_1 (.o (.o (.ls 0 (.f [] [] [0, 1, 5] [] (fun (k44 : Nat) (s40 : Unit) => [(5, eI (k44 : Int))]) (fun k44 s40 => []) (fun k44 s40 => .z) (fun s48 => .z)))))
end Go.Proofs.YtbdkbdafhlcilaaGreat
set_option linter.unusedSimpArgs false
set_option linter.unusedVariables false
namespace Go.Proofs.YtbdkbdafhlcilaaGreat
open Go Go.RowKit
set_option maxRecDepth 100000
set_option maxHeartbeats 20000000
instance W4v : ∀ (n : Nat) (p0 : (List Q3)) (p1 : Int) (p2 : Int), Ct (Q8k n p0 p1 p2) fun res => Z1 Tryz.prog 0o00360 [(.slice 2 (List.map X9 p0)), (eI p1), (eI p2)] (fun d => d = (eB res)) :=
 au Tryz.func240 Q8k.eq_1 (.o (.o (.o (.o (.w [] [] [0, 1, 2, 7] [] (fun (s3024 : Int) => [(7, eI s3024)]) (fun s3024 => []) (fun s3024 => .i (.j 4 1 [0, 1, 2, 7] [] (fun (s3346 : Unit) => []) (fun _ => []) (.g [0, 1, 2, 7] [] [] [] (.i (.o (.o (.d [0, 1, 2, 3, 4, 5, 6, 7, 8, 9, 10, 11, 12, 13, 14, 15] [] [] .z))) (.d [0, 1, 2, 3, 4, 5, 6, 7, 8, 9, 10, 11, 12, 13, 14, 15] [] [] .z))) (fun s3346 => .b fun (x3485 : Q3) => .le 0 1 3 Q61 x3485.ctors x3485 (.f [0, 1, 2, 7] [] [0, 1, 2, 7, 8] [] (fun (k3592 : Nat) (s3588 : Unit) => [(8, eI (k3592 : Int))]) (fun k3592 s3588 => []) (fun k3592 s3588 => .o (.j 7 0 [0, 1, 2, 7, 8] [] (fun (s3602 : Unit) => []) (fun _ => []) .z (fun s3602 => .j 9 0 [0, 1, 2, 7, 8] [] (fun (s3621 : Unit) => []) (fun _ => []) (.g [0, 1, 2, 7, 8] [] [] [] (.o (.i (.o (.d [0, 1, 2, 3, 4, 5, 6, 7, 8, 9, 10, 11, 12, 13, 14, 15, 16, 17, 18, 19, 20, 21, 22, 23, 24, 25, 26, 27, 28] [] [] .z)) (.d [0, 1, 2, 3, 4, 5, 6, 7, 8, 9, 10, 11, 12, 13, 14, 15, 16, 17, 18, 19, 20, 21, 22, 23, 24, 25, 26, 27, 28] [] [] .z)))) (fun _ => .z)))) (fun s3596 => .z)))) .z) (fun s3032 => .z))))))
end Go.Proofs.YtbdkbdafhlcilaaGreat
set_option linter.unusedSimpArgs false
set_option linter.unusedVariables false
namespace Go.Proofs.YtbdkbdafhlcilaaGreat
open Go Go.RowKit
set_option maxRecDepth 100000
set_option maxHeartbeats 20000000
instance W98 : ∀ (p0 : Int), Ct (Q8d p0) fun res => Z1 Tryz.prog 0o00431 [(.val (.int .u8 p0))] (fun d => d = (eB res)) :=
 au Tryz.func281 Q8d.eq_1 .z
end Go.Proofs.YtbdkbdafhlcilaaGreat
set_option linter.unusedSimpArgs false
set_option linter.unusedVariables false
namespace Go.Proofs.YtbdkbdafhlcilaaGreat
open Go Go.RowKit
set_option maxRecDepth 100000
set_option maxHeartbeats 20000000
instance V0t : ∀ (p0 : Q1) (p1 : (List Int)), Ct (Q5l p0 p1) fun res => Z1 Tryz.prog 0o00227 [(.agg (X0 p0)), (.slice 1 (List.map rI p1))] (fun d => d = (.agg (X0 res))) :=
 au Tryz.func151 Q5l.eq_1 (.o (.o (.ls 1 (.f [2, 4] [0, 8] [1, 2, 4, 5] [0, 8] (fun (k46 : Nat) (s42 : Q1) => [(5, eI (k46 : Int))]) (fun k46 s42 => [(0, some ⟨3, [(X0 s42)], 0, 0x0038⟩)]) (fun k46 s42 => .o (.g [1, 2, 4, 5] [0, 1] [] [] (.o (.d [0, 1, 2, 3, 4, 5, 6, 7, 8] [0] [2] .z)))) (fun s50 => .z)))))
end Go.Proofs.YtbdkbdafhlcilaaGreat
set_option linter.unusedSimpArgs false
set_option linter.unusedVariables false
namespace Go.Proofs.YtbdkbdafhlcilaaGreat
open Go Go.RowKit
set_option maxRecDepth 100000
set_option maxHeartbeats 20000000
instance W79 : ∀ (p0 : (List ByteArray)) (p1 : ByteArray), Ct (Q9a p0 p1) fun res => Z1 Tryz.prog 0o00470 [(.slice 1 (List.map rS p0)), (eS p1)] (fun d => d = (eI res)) :=
 au Tryz.func312 Q9a.eq_1 (.o (.o (.i .z (.ls 0 (.f [] [] [0, 1, 5] [] (fun (k46 : Nat) (s42 : Unit) => [(5, eI (k46 : Int))]) (fun k46 s42 => []) (fun k46 s42 => .z) (fun s50 => .z))))))
end Go.Proofs.YtbdkbdafhlcilaaGreat
