import Derived.Test.YtbdkbdafhlcilaaGreatAJMir
import Derived.Test.YtbdkbdafhlcilaaGreatAJAuto
import Derived.Test.YtbdkbdafhlcilaaGreatAJAuI
set_option linter.unusedSimpArgs false
set_option linter.unusedVariables false
set_option linter.unusedSimpArgs false
set_option linter.unusedVariables false
namespace Go.Proofs.YtbdkbdafhlcilaaGreat
open Go Go.RowKit
set_option maxRecDepth 100000
set_option maxHeartbeats 20000000
instance W7s : ∀ (p0 : (List Int)) (p1 : (List Int)), Ct (Q34 p0 p1) fun res => Z0 Tryz.prog 0o00014 [(.slice 1 (List.map rI p0)), (.slice 1 (List.map rI p1))] (fun d => d = (eB res)) :=
 au Tryz.func12 Q34.eq_1 (.o (.o (.i .z (.ls 0 (.f [] [] [0, 1, 5] [] (fun (k56 : Nat) (s52 : Unit) => [(5, eI (k56 : Int))]) (fun k56 s52 => []) (fun k56 s52 => .o (.g [0, 1, 5] [] [] [] (.o (.d [0, 1, 2, 3, 4, 5, 6, 7, 8] [] [] .z)))) (fun s60 => .z))))))
end Go.Proofs.YtbdkbdafhlcilaaGreat
set_option linter.unusedSimpArgs false
set_option linter.unusedVariables false
namespace Go.Proofs.YtbdkbdafhlcilaaGreat
open Go Go.RowKit
set_option maxRecDepth 100000
set_option maxHeartbeats 20000000
instance X7n : ∀ (p0 : (List Int)) (p1 : Int), Ct (Q4q p0 p1) fun res => Z0 Tryz.prog 0o00257 [(.slice 1 (List.map rI p0)), (eI p1)] (fun d => d = (eI res)) :=
 au Tryz.func175 Q4q.eq_1 (.o (.o (.ls 0 (.f [] [] [0, 1, 7, 8] [] (fun (k44 : Nat) (s40 : Unit) => [(8, eI (k44 : Int))]) (fun k44 s40 => []) (fun k44 s40 => .z) (fun s48 => .z)))))
end Go.Proofs.YtbdkbdafhlcilaaGreat
set_option linter.unusedSimpArgs false
set_option linter.unusedVariables false
namespace Go.Proofs.YtbdkbdafhlcilaaGreat
open Go Go.RowKit
set_option maxRecDepth 100000
set_option maxHeartbeats 20000000
instance X9i : ∀ (n : Nat) (p0 : Q0), Ct (Q16 n p0) fun res => Z0 Tryz.prog 0o00260 [(.agg (Q1 p0))] (fun d => d = (.agg (Q1 res))) :=
 ar (au Tryz.func176 Q16.eq_2 (.o (.o (.b fun (p0 : Q0) => .pC 0 5 6 0x0064 (.ls 7 (.f [1, 2] [0, 80, 8] [1, 2, 9, 10, 11] [0, 80, 8] (fun (k56 : Nat) (s52 : (List Q0)) => [(11, eI (k56 : Int))]) (fun k56 s52 => [(1000000000, some ⟨6, [[(eI p0.op), (eI p0.ctor), (eI p0.n), (eI p0.m), (eI p0.var), (.sl 6 80 (s52).length)]], 0, 0x0064⟩), (80, some ⟨6, (List.map Q1 s52), 0, 0x0064⟩)]) (fun k56 s52 => .o (.g [1, 2, 5, 9, 10, 11] [0, 1, 2, 27] [] [(1000000000, some ⟨6, [[(eI p0.op), (eI p0.ctor), (eI p0.n), (eI p0.m), (eI p0.var), (.sl 6 1 (s52).length)]], 0, 0x0064⟩)] (.o (.o (.d [0, 1, 2, 3, 4, 5, 6, 7] [0, 3] [21] .z))))) (fun s60 => .z)))))))
end Go.Proofs.YtbdkbdafhlcilaaGreat
set_option linter.unusedSimpArgs false
set_option linter.unusedVariables false
namespace Go.Proofs.YtbdkbdafhlcilaaGreat
open Go Go.RowKit
set_option maxRecDepth 100000
set_option maxHeartbeats 20000000
instance Z8z : ∀ (p0 : (List Q6)) (p1 : (Q6 → Option Bool)) {p1_f : FuncId} {p1_c : List D} [p1_i : CF1 (fun a0 => (.agg (W6 a0))) (fun r => (eB r)) p1 p1_f p1_c], Ct (Q3m p0 p1) fun res => Z0 Tryz.prog 0o00241 [(.slice 9 (List.map W6 p0)), .clos p1_f p1_c] (fun d => d = (eI res)) :=
 au Tryz.func161 Q3m.eq_1 (.o (.o (.o (.o (.o (.ls 0 (.f [] [] [0, 1, 7, 8] [] (fun (k54 : Nat) (s50 : Unit) => [(8, eI (k54 : Int))]) (fun k54 s50 => []) (fun k54 s50 => .z) (fun s58 => .z))))))))
end Go.Proofs.YtbdkbdafhlcilaaGreat
set_option linter.unusedSimpArgs false
set_option linter.unusedVariables false
namespace Go.Proofs.YtbdkbdafhlcilaaGreat
open Go Go.RowKit
set_option maxRecDepth 100000
set_option maxHeartbeats 20000000
instance X9k : Ct (Y5) fun res => Z0 Tryz.prog 0o00177 [] (fun d => d = (.agg (Q1 res))) :=
 au Tryz.func127 Y5.eq_1 .z
end Go.Proofs.YtbdkbdafhlcilaaGreat
set_option linter.unusedSimpArgs false
set_option linter.unusedVariables false
namespace Go.Proofs.YtbdkbdafhlcilaaGreat
open Go Go.RowKit
set_option maxRecDepth 100000
set_option maxHeartbeats 20000000
instance W7v : ∀ (n : Nat) (p0 : (List Int)), Ct (Q2b n p0) fun res => Z0 Tryz.prog 0o00340 [(.slice 1 (List.map rI p0))] (fun d => d = (.slice 6 (List.map Q1 res))) :=
 au Tryz.func224 Q2b.eq_1 (.o (.o (.pN 3 6 0x0064 (.w [3] [24] [0, 3, 4] [24] (fun (s81 : (List Q0) × Int) => [(3, .sl 6 24 (s81.1).length), (4, eI s81.2)]) (fun s81 => [(24, some ⟨6, (List.map Q1 s81.1), 0, 0x0064⟩)]) (fun s81 => .i (.j 5 0 [0, 3, 4] [0] (fun (s96 : (List Q0)) => [(3, .sl 6 0 (s96).length)]) (fun s96 => [(0, some ⟨6, (List.map Q1 s96), 0, 0x0064⟩)]) (.g [0, 3, 4] [0] [] [] (.o (.o (.d [0, 1, 2, 3, 4, 5, 6, 7, 8, 9] [] [] (.i (.g [0, 3, 4] [0] [] [] (.o (.d [0, 1, 2, 3, 4, 5, 6, 7, 8, 9, 10, 11, 12, 13] [] [] .z))) .z))))) (fun _ => .z)) .z) (fun s89 => .z)))))
end Go.Proofs.YtbdkbdafhlcilaaGreat
set_option linter.unusedSimpArgs false
set_option linter.unusedVariables false
namespace Go.Proofs.YtbdkbdafhlcilaaGreat
open Go Go.RowKit
set_option maxRecDepth 100000
set_option maxHeartbeats 20000000
instance W5k : ∀ (p0 : (List Int)), Ct (Q3l p0) fun res => J1 Tryz.prog 0o00054 [] [(.slice 1 (List.map (rK .u8) p0))] (fun H d => H = [some ⟨2, [(Y4 res)], 0, 0x009a⟩] ∧ d = .ptr 2 0 0 0) :=
 au Tryz.func44 Q3l.eq_1 (.o (.j 1 0 [0] [] (fun (s3 : (List Int)) => [(0, .slice 1 (List.map (rK .u8) s3))]) (fun _ => []) .z (fun _ => .z)))
end Go.Proofs.YtbdkbdafhlcilaaGreat
set_option linter.unusedSimpArgs false
set_option linter.unusedVariables false
namespace Go.Proofs.YtbdkbdafhlcilaaGreat
open Go Go.RowKit
set_option maxRecDepth 100000
set_option maxHeartbeats 20000000
instance W5e : ∀ (n : Nat) (p0 : (List Q3)) (p1 : Int) (p2 : Int), Ct (Q8u n p0 p1 p2) fun res => Z0 Tryz.prog 0o00360 [(.slice 2 (List.map W3 p0)), (eI p1), (eI p2)] (fun d => d = (eB res)) :=
 au Tryz.func240 Q8u.eq_1 (.o (.o (.o (.o (.w [] [] [0, 1, 2, 7] [] (fun (s3024 : Int) => [(7, eI s3024)]) (fun s3024 => []) (fun s3024 => .i (.j 4 1 [0, 1, 2, 7] [] (fun (s3346 : Unit) => []) (fun _ => []) (.g [0, 1, 2, 7] [] [] [] (.i (.o (.o (.d [0, 1, 2, 3, 4, 5, 6, 7, 8, 9, 10, 11, 12, 13, 14, 15] [] [] .z))) (.d [0, 1, 2, 3, 4, 5, 6, 7, 8, 9, 10, 11, 12, 13, 14, 15] [] [] .z))) (fun s3346 => .b fun (x3485 : Q3) => .le 0 1 3 Q68 x3485.ctors x3485 (.f [0, 1, 2, 7] [] [0, 1, 2, 7, 8] [] (fun (k3592 : Nat) (s3588 : Unit) => [(8, eI (k3592 : Int))]) (fun k3592 s3588 => []) (fun k3592 s3588 => .o (.j 7 0 [0, 1, 2, 7, 8] [] (fun (s3602 : Unit) => []) (fun _ => []) .z (fun s3602 => .j 9 0 [0, 1, 2, 7, 8] [] (fun (s3621 : Unit) => []) (fun _ => []) (.g [0, 1, 2, 7, 8] [] [] [] (.o (.i (.o (.d [0, 1, 2, 3, 4, 5, 6, 7, 8, 9, 10, 11, 12, 13, 14, 15, 16, 17, 18, 19, 20, 21, 22, 23, 24, 25, 26, 27, 28] [] [] .z)) (.d [0, 1, 2, 3, 4, 5, 6, 7, 8, 9, 10, 11, 12, 13, 14, 15, 16, 17, 18, 19, 20, 21, 22, 23, 24, 25, 26, 27, 28] [] [] .z)))) (fun _ => .z)))) (fun s3596 => .z)))) .z) (fun s3032 => .z))))))
end Go.Proofs.YtbdkbdafhlcilaaGreat
set_option linter.unusedSimpArgs false
set_option linter.unusedVariables false
namespace Go.Proofs.YtbdkbdafhlcilaaGreat
open Go Go.RowKit
set_option maxRecDepth 100000
set_option maxHeartbeats 20000000
instance W9q : ∀ (p0 : Int), Ct (Q8k p0) fun res => Z0 Tryz.prog 0o00431 [(.val (.int .u8 p0))] (fun d => d = (eB res)) :=
 au Tryz.func281 Q8k.eq_1 .z
end Go.Proofs.YtbdkbdafhlcilaaGreat
set_option linter.unusedSimpArgs false
set_option linter.unusedVariables false
namespace Go.Proofs.YtbdkbdafhlcilaaGreat
open Go Go.RowKit
set_option maxRecDepth 100000
set_option maxHeartbeats 20000000
instance W9p : ∀ (p0 : (List Int)) (p1 : Int), Ct (Q5y p0 p1) fun res => Z0 Tryz.prog 0o00136 [(.slice 1 (List.map rI p0)), (eI p1)] (fun d => d = (eB res)) :=
 au Tryz.func94 Q5y.eq_1 (.o (.o (.ls 0 (.f [] [] [0, 1, 5] [] (fun (k44 : Nat) (s40 : Unit) => [(5, eI (k44 : Int))]) (fun k44 s40 => []) (fun k44 s40 => .z) (fun s48 => .z)))))
end Go.Proofs.YtbdkbdafhlcilaaGreat
set_option linter.unusedSimpArgs false
set_option linter.unusedVariables false
namespace Go.Proofs.YtbdkbdafhlcilaaGreat
open Go Go.RowKit
set_option maxRecDepth 100000
set_option maxHeartbeats 20000000
instance W5a : ∀ (n : Nat) (p0 : Q0) (p1 : Int), Ct (Q3k n p0 p1) fun res => Z0 Tryz.prog 0o00335 [(.agg (Q1 p0)), (eI p1)] (fun d => d = (eI res)) :=
 ar (au Tryz.func221 Q3k.eq_2 (.o (.o (.b fun (p0 : Q0) => .o (.lc 0 5 6 Q1 p0.kids (.f [5] [] [1, 2, 5, 6] [0] (fun (k80 : Nat) (s76 : Int) => [(5, eI s76), (6, eI (k80 : Int))]) (fun k80 s76 => []) (fun k80 s76 => .z) (fun s84 => .z)))))))
end Go.Proofs.YtbdkbdafhlcilaaGreat
set_option linter.unusedSimpArgs false
set_option linter.unusedVariables false
namespace Go.Proofs.YtbdkbdafhlcilaaGreat
open Go Go.RowKit
set_option maxRecDepth 100000
set_option maxHeartbeats 20000000
instance W7d : ∀ (p0 : (List Q8)) (p1 : Int), Ct (Q32 p0 p1) fun res => Z0 Tryz.prog 0o00362 [(.slice 3 (List.map V3 p0)), (eI p1)] (fun d => d = (eI res)) :=
 au Tryz.func242 Q32.eq_1 (.o (.o (.ls 0 (.f [] [] [0, 1, 5] [] (fun (k44 : Nat) (s40 : Unit) => [(5, eI (k44 : Int))]) (fun k44 s40 => []) (fun k44 s40 => .z) (fun s48 => .z)))))
end Go.Proofs.YtbdkbdafhlcilaaGreat
set_option linter.unusedSimpArgs false
set_option linter.unusedVariables false
namespace Go.Proofs.YtbdkbdafhlcilaaGreat
open Go Go.RowKit
set_option maxRecDepth 100000
set_option maxHeartbeats 20000000
set_option maxRecDepth 100000 in
theorem Z3z (p0 : (List Int)) (res : (List Int)) (h : J7 p0 = some res) : J1 Tryz.prog 0o00176 [] [(.slice 1 (List.map rI p0))] (fun H d => H = [some ⟨1, List.map rI res, 0, 0x0003⟩] ∧ d = .sl 1 0 res.length) := by
  unfold J7 at h
  refine J1.of (res := [.tmp 2]) Q7s Tryz.func126 (by decide) rfl (Nat.le_of_ble_eq_true rfl) rfl rfl (fun β hβ => ?_)
  refine TrD.seq ?_
  refine TrD.regK Q7s (fun K hK => ?_)
  simp
  refine hK _ ?_
  refine TrD.seq ?_
  refine TrD.seq ?_
  refine TrD.regK Q7s (fun K hK => ?_)
  simp
  refine ⟨?_, fun hnil => ?_⟩
  · refine hK _ ?_
    refine TrD.cond (b := false) (by simp) (fun hb => by cases hb) (fun hb => ?_)
    refine TrD.skip ?_
    refine TrD.seq ?_
    obtain ⟨x3, hx3, h⟩ := bindE h
    have hx3_r := (Q8q hx3).2
    try simp only [List.length_append, List.length_cons, List.length_nil, List.length_map, Nat.zero_add, Nat.add_zero, Nat.reduceAdd, Z27, Z20] at hx3_r
    obtain hhx3 := Z8m hx3
    subst hhx3
    refine TrD.regK Q7s (fun K hK => ?_)
    simp [hx3_r]
    refine hK _ ?_
    obtain rfl := Option.some.inj h
    refine TrD.ret ?_
    refine Z5h (σ' := ⟨(updD (fun _ => .any) 2 (.sl 1 0 (p0).length)), hOfO [some ⟨1, (List.map rI p0), 0, 0x0003⟩], 1, 8⟩) ?_ ?_
    · exact Y1.canonV 0 [40] _ _ hβ (Q61 (by decide)) (by decide) (Q91 (v_of (d0 := (.sl 1 40 (p0).length)) (by simp [hx3_r]) (v_sl rfl)) (Z50 _)) (.cons (lv (L := ⟨1, (List.map rI p0), 0, 0x0003⟩) (by simp [hx3_r]) rfl rfl (by simp [hx3_r]) (Q5s (by simp [hx3_r]) (Q7 (fun _ => by simp) _))) .nil)
    · dsimp only [resD]
      exact ⟨[some ⟨1, (List.map rI p0), 0, 0x0003⟩], [], rfl, by simp, by simp, .inl rfl, by simp [Q8e]⟩
  · replace h : some ([]) = some res := by simp only [hnil] at h; simpa [app] using h
    refine hK _ ?_
    refine TrD.cond (b := true) (by simp) (fun hb => ?_) (fun hb => by cases hb)
    refine TrD.seq ?_
    refine TrD.regK Q7s (fun K hK => ?_)
    simp
    refine hK _ ?_
    obtain rfl := Option.some.inj h
    refine TrD.ret ?_
    refine Z5h (σ' := ⟨(updD (fun _ => .any) 2 (.sl 1 0 0)), hOfO [some ⟨1, (List.map rI []), 0, 0x0003⟩], 1, 8⟩) ?_ ?_
    · refine (Y1.ownNil (s := 2) (by simp) 1 0x0003).trans ?_
      exact Y1.canonV 0 [32] _ _ hβ (Q61 (by decide)) (by decide) (Q91 (v_of (d0 := (.sl 1 32 0)) (by simp) (v_sl rfl)) (Z50 _)) (.cons (lv (L := ⟨1, (List.map rI []), 0, 0x0003⟩) (by simp) rfl rfl (by simp) (Q5s (by simp) (Q7 (fun _ => by simp) _))) .nil)
    · dsimp only [resD]
      exact ⟨[some ⟨1, (List.map rI []), 0, 0x0003⟩], [], rfl, by simp, by simp, .inl rfl, by simp [Q8e]⟩
instance X7p : ∀ (p0 : (List Int)), Ct (J7 p0) fun res => J1 Tryz.prog 0o00176 [] [(.slice 1 (List.map rI p0))] (fun H d => H = [some ⟨1, List.map rI res, 0, 0x0003⟩] ∧ d = .sl 1 0 res.length) := fun p0 => ⟨Z3z p0⟩
end Go.Proofs.YtbdkbdafhlcilaaGreat
