import Derived.Test.YtbdkbdafhlcilaaGreatBJMir
import Derived.Test.YtbdkbdafhlcilaaGreatBJAuto
import Derived.Test.YtbdkbdafhlcilaaGreatBJAuI
set_option linter.unusedSimpArgs false
set_option linter.unusedVariables false
set_option linter.unusedSimpArgs false
set_option linter.unusedVariables false
namespace Go.Proofs.YtbdkbdafhlcilaaGreat
open Go Go.RowKit
set_option maxRecDepth 100000
set_option maxHeartbeats 20000000
instance Z89 : ∀ (p0 : (List Q6)) (p1 : (Q6 → Option Bool)) {p1_f : FuncId} {p1_c : List D} [p1_i : CF1 (fun a0 => (.agg (V0 a0))) (fun r => (eB r)) p1 p1_f p1_c], Ct (Q3h p0 p1) fun res => Z1 Tryz.prog 0o00241 [(.slice 9 (List.map V0 p0)), .clos p1_f p1_c] (fun d => d = (eI res)) :=
 au Tryz.func161 Q3h.eq_1 (.o (.o (.o (.o (.o (.ls 0 (.f [] [] [0, 1, 7, 8] [] (fun (k54 : Nat) (s50 : Unit) => [(8, eI (k54 : Int))]) (fun k54 s50 => []) (fun k54 s50 => .z) (fun s58 => .z))))))))
end Go.Proofs.YtbdkbdafhlcilaaGreat
set_option linter.unusedSimpArgs false
set_option linter.unusedVariables false
namespace Go.Proofs.YtbdkbdafhlcilaaGreat
open Go Go.RowKit
set_option maxRecDepth 100000
set_option maxHeartbeats 20000000
instance X19 : ∀ (p0 : (List Q9)) (p1 : Q9), Ct (Q2m p0 p1) fun res => Z1 Tryz.prog 0o00416 [(.slice 3 (List.map V5 p0)), (.agg (V5 p1))] (fun d => d = (eI res)) :=
 au Tryz.func270 Q2m.eq_1 (.o (.o (.ls 0 (.f [] [] [0, 3, 7, 8] [0] (fun (k44 : Nat) (s40 : Unit) => [(8, eI (k44 : Int))]) (fun k44 s40 => []) (fun k44 s40 => .o (.g [0, 3, 5, 7, 8] [0] [] [] (.d [0, 1, 2, 3, 4, 5] [0] [] .z))) (fun s48 => .z)))))
end Go.Proofs.YtbdkbdafhlcilaaGreat
set_option linter.unusedSimpArgs false
set_option linter.unusedVariables false
namespace Go.Proofs.YtbdkbdafhlcilaaGreat
open Go Go.RowKit
set_option maxRecDepth 100000
set_option maxHeartbeats 20000000
instance X0d : ∀ (p0 : (List Q5)) (p1 : (Q5 → Option Bool)) {p1_f : FuncId} {p1_c : List D} [p1_i : CF1 (fun a0 => (.agg (X7 a0))) (fun r => (eB r)) p1 p1_f p1_c], Ct (Q44 p0 p1) fun res => Z1 Tryz.prog 0o00346 [(.slice 2 (List.map X7 p0)), .clos p1_f p1_c] (fun d => d = (eI res)) :=
 au Tryz.func230 Q44.eq_1 (.o (.o (.o (.o (.o (.ls 0 (.f [] [] [0, 1, 7, 8] [] (fun (k54 : Nat) (s50 : Unit) => [(8, eI (k54 : Int))]) (fun k54 s50 => []) (fun k54 s50 => .z) (fun s58 => .z))))))))
end Go.Proofs.YtbdkbdafhlcilaaGreat
set_option linter.unusedSimpArgs false
set_option linter.unusedVariables false
namespace Go.Proofs.YtbdkbdafhlcilaaGreat
open Go Go.RowKit
set_option maxRecDepth 100000
set_option maxHeartbeats 20000000
theorem Q9z (p0 : (List Q0)) (res : (List Q0)) (h : Q01 p0 = some res) : J8 Tryz.prog 0o00200 [] [(.slice 6 (List.map Q8 p0))] (fun H d => H = [some ⟨6, List.map Q8 res, 0, 0x0064⟩] ∧ d = .sl 6 0 res.length) := by
 unfold Q01 at h
 refine CH Tryz.func128 [.tmp 2] 0 fun β hβ => ?_
 refine sZ ?_
 apply sq
 refine sk fun K hK => ?_
 simp
 refine ⟨?_, fun hnil => ?_⟩
 ·apply hK
  refine cF ?_
  apply TrD.skip
  apply sq
  obtain ⟨x3, hx3, h⟩ := bindE h
  have hx3_r := (Q7g hx3).2
  try simp only [List.length_nil, Nat.zero_add] at hx3_r
  obtain hhx3 := Z4d hx3
  subst hhx3
  refine rZ ?_ fun K hK => by simp [hx3_r]; exact hK
  cases h
  apply TrD.ret
  refine Z1f (σ' := ⟨(updD (fun _ => .any) 2 (.sl 6 0 (p0).length)), hOfO [some ⟨6, (List.map Q8 p0), 0, 0x0064⟩], 1, 8⟩) ?_ ?_
  ·exact gC [40]
  dsimp only [resD]
  exact eA
 replace h : some ([]) = some res := by simp only [hnil] at h; simpa [app] using h
 apply hK
 refine cT ?_
 refine sZ ?_
 cases h
 apply TrD.ret
 refine Z1f (σ' := ⟨(updD (fun _ => .any) 2 (.sl 6 0 0)), hOfO [some ⟨6, (List.map Q8 []), 0, 0x0064⟩], 1, 8⟩) ?_ ?_
 ·refine (Y2.ownNil (s := 2) (by simp) 6 0x0064).trans ?_
  exact gC [32]
 dsimp only [resD]
 exact eA
instance X1c : ∀ (p0 : (List Q0)), Ct (Q01 p0) fun res => J8 Tryz.prog 0o00200 [] [(.slice 6 (List.map Q8 p0))] (fun H d => H = [some ⟨6, List.map Q8 res, 0, 0x0064⟩] ∧ d = .sl 6 0 res.length) := fun p0 => ⟨Q9z p0⟩
end Go.Proofs.YtbdkbdafhlcilaaGreat
set_option linter.unusedSimpArgs false
set_option linter.unusedVariables false
namespace Go.Proofs.YtbdkbdafhlcilaaGreat
open Go Go.RowKit
set_option maxRecDepth 100000
set_option maxHeartbeats 20000000
instance W0l : ∀ (p0 : (List Int)) (p1 : Q5), Ct (Q49 p0 p1) fun res => Z1 Tryz.prog 0o00214 [.cptr (List.map cI p0), (.agg (X7 p1))] (fun d => d = (eI res)) :=
 au Tryz.func140 Q49.eq_1 (.o (.o (.i .z (.g [0, 3] [0] [] [] (.o (.d [0, 1, 2, 3, 4, 5, 6, 7, 8, 9] [0] [] .z))))))
end Go.Proofs.YtbdkbdafhlcilaaGreat
set_option linter.unusedSimpArgs false
set_option linter.unusedVariables false
namespace Go.Proofs.YtbdkbdafhlcilaaGreat
open Go Go.RowKit
set_option maxRecDepth 100000
set_option maxHeartbeats 20000000
instance W33 : ∀ (p0 : Int), Ct (Q4r p0) fun res => Z1 Tryz.prog 0o00355 [(eI p0)] (fun d => d = (eB res)) :=
 au Tryz.func237 Q4r.eq_1 .z
end Go.Proofs.YtbdkbdafhlcilaaGreat
set_option linter.unusedSimpArgs false
set_option linter.unusedVariables false
namespace Go.Proofs.YtbdkbdafhlcilaaGreat
open Go Go.RowKit
set_option maxRecDepth 100000
set_option maxHeartbeats 20000000
set_option maxRecDepth 100000 in
theorem Z3d (p0 : (List Grow)) (res : (List Grow)) (h : Q1r p0 = some res) : J8 Tryz.prog 0o00317 [] [(.slice 3 (List.map Q41 p0))] (fun H d => H = [some ⟨3, List.map Q41 res, 0, 0x0066⟩] ∧ d = .sl 3 0 res.length) := by
  unfold Q1r at h
  refine J8.of (res := [.tmp 2]) Q7p Tryz.func207 (by decide) rfl (Nat.le_of_ble_eq_true rfl) rfl rfl (fun β hβ => ?_)
  refine TrD.seq ?_
  refine TrD.regK Q7p (fun K hK => ?_)
  simp
  refine hK _ ?_
  refine TrD.seq ?_
  refine TrD.seq ?_
  refine TrD.regK Q7p (fun K hK => ?_)
  simp
  refine ⟨?_, fun hnil => ?_⟩
  · refine hK _ ?_
    refine TrD.cond (b := false) (by simp) (fun hb => by cases hb) (fun hb => ?_)
    refine TrD.skip ?_
    refine TrD.seq ?_
    obtain ⟨x3, hx3, h⟩ := bindE h
    have hx3_r := (Q7g hx3).2
    try simp only [List.length_append, List.length_cons, List.length_nil, List.length_map, Nat.zero_add, Nat.add_zero, Nat.reduceAdd, Z1p, Z1h] at hx3_r
    obtain hhx3 := Z4d hx3
    subst hhx3
    refine TrD.regK Q7p (fun K hK => ?_)
    simp [hx3_r]
    refine hK _ ?_
    obtain rfl := Option.some.inj h
    refine TrD.ret ?_
    refine Z1f (σ' := ⟨(updD (fun _ => .any) 2 (.sl 3 0 (p0).length)), hOfO [some ⟨3, (List.map Q41 p0), 0, 0x0066⟩], 1, 8⟩) ?_ ?_
    · exact Y2.canonV 0 [40] _ _ hβ (Q5u (by decide)) (by decide) (Q8p (v_of (d0 := (.sl 3 40 (p0).length)) (by simp [hx3_r]) (v_sl rfl)) (Z4h _)) (.cons (lv (L := ⟨3, (List.map Q41 p0), 0, 0x0066⟩) (by simp [hx3_r]) rfl rfl (by simp [hx3_r]) (Q5i (by simp [hx3_r]) (Q7 Z6y _))) .nil)
    · dsimp only [resD]
      exact ⟨[some ⟨3, (List.map Q41 p0), 0, 0x0066⟩], [], rfl, by simp, by simp, .inl rfl, by simp [Q87]⟩
  · replace h : some ([]) = some res := by simp only [hnil] at h; simpa [app] using h
    refine hK _ ?_
    refine TrD.cond (b := true) (by simp) (fun hb => ?_) (fun hb => by cases hb)
    refine TrD.seq ?_
    refine TrD.regK Q7p (fun K hK => ?_)
    simp
    refine hK _ ?_
    obtain rfl := Option.some.inj h
    refine TrD.ret ?_
    refine Z1f (σ' := ⟨(updD (fun _ => .any) 2 (.sl 3 0 0)), hOfO [some ⟨3, (List.map Q41 []), 0, 0x0066⟩], 1, 8⟩) ?_ ?_
    · refine (Y2.ownNil (s := 2) (by simp) 3 0x0066).trans ?_
      exact Y2.canonV 0 [32] _ _ hβ (Q5u (by decide)) (by decide) (Q8p (v_of (d0 := (.sl 3 32 0)) (by simp) (v_sl rfl)) (Z4h _)) (.cons (lv (L := ⟨3, (List.map Q41 []), 0, 0x0066⟩) (by simp) rfl rfl (by simp) (Q5i (by simp) (Q7 Z6y _))) .nil)
    · dsimp only [resD]
      exact ⟨[some ⟨3, (List.map Q41 []), 0, 0x0066⟩], [], rfl, by simp, by simp, .inl rfl, by simp [Q87]⟩
instance X77 : ∀ (p0 : (List Grow)), Ct (Q1r p0) fun res => J8 Tryz.prog 0o00317 [] [(.slice 3 (List.map Q41 p0))] (fun H d => H = [some ⟨3, List.map Q41 res, 0, 0x0066⟩] ∧ d = .sl 3 0 res.length) := fun p0 => ⟨Z3d p0⟩
end Go.Proofs.YtbdkbdafhlcilaaGreat
set_option linter.unusedSimpArgs false
set_option linter.unusedVariables false
namespace Go.Proofs.YtbdkbdafhlcilaaGreat
open Go Go.RowKit
set_option maxRecDepth 100000
set_option maxHeartbeats 20000000
instance V0y : ∀ (p0 : Q1) (p1 : (List Int)), Ct (Q5m p0 p1) fun res => Z1 Tryz.prog 0o00216 [(.agg (X0 p0)), (.slice 1 (List.map rI p1))] (fun d => d = (.agg (X0 res))) :=
 au Tryz.func142 Q5m.eq_1 (.o (.o (.ls 1 (.f [2, 4] [0, 8] [2, 4, 7, 8, 9] [0, 8] (fun (k46 : Nat) (s42 : Q1) => [(9, eI (k46 : Int))]) (fun k46 s42 => [(0, some ⟨3, [(X0 s42)], 0, 0x0038⟩)]) (fun k46 s42 => .z) (fun s50 => .z)))))
end Go.Proofs.YtbdkbdafhlcilaaGreat
set_option linter.unusedSimpArgs false
set_option linter.unusedVariables false
namespace Go.Proofs.YtbdkbdafhlcilaaGreat
open Go Go.RowKit
set_option maxRecDepth 100000
set_option maxHeartbeats 20000000
instance W2k : ∀ (p0 : (List (List Q0))), Ct (Q3o p0) fun res => Z1 Tryz.prog 0o00322 [(.slice 1 (List.map (rL 6 Q8) p0))] (fun d => d = (.slice 1 (List.map (rL 6 Q8) res))) :=
 au Tryz.func210 Q3o.eq_1 (.o (.pF 8 (.ls 0 (.f [3] [16] [0, 3, 4] [16] (fun (k12196 : Nat) (s12192 : (List (List Q0))) => [(3, .sl 1 16 (s12192).length), (4, eI (k12196 : Int))]) (fun k12196 s12192 => [(16, some ⟨1, (List.map (rL 6 Q8) s12192), 0, 0x005b⟩)]) (fun k12196 s12192 => .b fun (x12197 : (List Q0)) => .ll 0 (.f [0, 4, 5] [33] [0, 3, 4, 5, 6] [0, 33] (fun (k13570 : Nat) (s13566 : (List (List Q0))) => [(5, .sl 1 33 (s13566).length), (6, eI (k13570 : Int))]) (fun k13570 s13566 => [(33, some ⟨1, (List.map (rL 6 Q8) s13566), 0, 0x005b⟩)]) (fun k13570 s13566 => .o (.i (.le 0 0 6 Q8 x12197 x12197 (.f [0, 3, 4, 5, 6] [0, 1] [0, 3, 4, 5, 6, 7] [0, 1] (fun (k13668 : Nat) (s13664 : (List (List Q0))) => [(5, .sl 1 1 (s13664).length), (7, eI (k13668 : Int))]) (fun k13668 s13664 => [(1, some ⟨1, (List.map (rL 6 Q8) s13664), 0, 0x005b⟩)]) (fun k13668 s13664 => .o (.i (.g [0, 3, 4, 5, 6, 7] [0, 1] [] [] (.o (.o (.o (.dz [0, 2, 3, 4, 5, 7, 8, 9, 10, 11, 12, 13, 1, 6, 14, 15, 16, 17, 18] [0] [1048632] [] (.pF 2097168 .z)))))) .z)) (fun s13672 => .z))) .z)) (fun s13574 => .z))) (fun s12200 => .z)))))
end Go.Proofs.YtbdkbdafhlcilaaGreat
set_option linter.unusedSimpArgs false
set_option linter.unusedVariables false
namespace Go.Proofs.YtbdkbdafhlcilaaGreat
open Go Go.RowKit
set_option maxRecDepth 100000
set_option maxHeartbeats 20000000
instance W2o : ∀ (p0 : Q70) (p1 : Int), Ct (Q7u p0 p1) fun res => Z1 Tryz.prog 0o00267 [(.agg (Q61 p0)), (eI p1)] (fun d => d = (eI res)) :=
 au Tryz.func183 Q7u.eq_1 .z
end Go.Proofs.YtbdkbdafhlcilaaGreat
set_option linter.unusedSimpArgs false
set_option linter.unusedVariables false
namespace Go.Proofs.YtbdkbdafhlcilaaGreat
open Go Go.RowKit
set_option maxRecDepth 100000
set_option maxHeartbeats 20000000
instance W93 : ∀ (p0 : (List V4)) (p1 : Int) (p2 : Int), Ct (Q5r p0 p1 p2) fun res => Z1 Tryz.prog 0o00376 [(.slice 3 (List.map Q1n p0)), (eI p1), (eI p2)] (fun d => d = (eB res)) :=
 au Tryz.func254 Q5r.eq_1 (.o (.o (.o (.ls 0 (.f [] [] [0, 1, 2, 7] [] (fun (k139 : Nat) (s135 : Unit) => [(7, eI (k139 : Int))]) (fun k139 s135 => []) (fun k139 s135 => .o (.j 4 0 [0, 1, 2, 7] [] (fun (s153 : Unit) => []) (fun _ => []) .z (fun _ => .z))) (fun s143 => .z))))))
end Go.Proofs.YtbdkbdafhlcilaaGreat
set_option linter.unusedSimpArgs false
set_option linter.unusedVariables false
namespace Go.Proofs.YtbdkbdafhlcilaaGreat
open Go Go.RowKit
set_option maxRecDepth 100000
set_option maxHeartbeats 20000000
instance W6y : ∀ (p0 : Int), Ct (Q66 p0) fun res => Z1 Tryz.prog 0o00433 [(eI p0)] (fun d => d = (eI res)) :=
 au Tryz.func283 Q66.eq_1 .z
end Go.Proofs.YtbdkbdafhlcilaaGreat
set_option linter.unusedSimpArgs false
set_option linter.unusedVariables false
namespace Go.Proofs.YtbdkbdafhlcilaaGreat
open Go Go.RowKit
set_option maxRecDepth 100000
set_option maxHeartbeats 20000000
instance W73 : ∀ (n : Nat) (p0 : Q1), Ct (Q31 n p0) fun res => Z1 Tryz.prog 0o00224 [(.agg (X0 p0))] (fun d => d = (.agg (X0 res))) :=
 ar (au Tryz.func148 Q31.eq_2 (.o (.o (.b fun (p0 : Q1) => .pC 56 2 3 0x0038 (.lc 0 2 3 X0 p0.kids (.f [2, 3] [8, 56, 80] [1, 2, 3, 4] [0, 8, 56, 80] (fun (k56 : Nat) (s52 : (List Q1)) => [(4, eI (k56 : Int))]) (fun k56 s52 => [(1000000056, some ⟨3, [[(eI p0.ctor), (eI p0.n), (.sl 3 80 (s52).length)]], 0, 0x0038⟩), (80, some ⟨3, (List.map X0 s52), 0, 0x0038⟩)]) (fun k56 s52 => .o (.g [1, 2, 3, 4] [0, 1, 2, 3] [] [(1000000002, some ⟨3, [[(eI p0.ctor), (eI p0.n), (.sl 3 3 (s52).length)]], 0, 0x0038⟩)] (.o (.o (.d [0, 1, 2, 3, 4, 5, 6, 7, 8, 9, 10, 11] [0, 2] [27] .z))))) (fun s60 => .z)))))))
end Go.Proofs.YtbdkbdafhlcilaaGreat
set_option linter.unusedSimpArgs false
set_option linter.unusedVariables false
namespace Go.Proofs.YtbdkbdafhlcilaaGreat
open Go Go.RowKit
set_option maxRecDepth 100000
set_option maxHeartbeats 20000000
instance X90 : ∀ (p0 : Z7) (p1 : Int), Ct (Z4 p0 p1) fun res => J8 Tryz.prog 0o00056 [⟨2, [(Y0 p0)], 0, 0x009a⟩] [.ptr 2 0 0 0, (eI p1)] (fun H d => H = [some ⟨2, [(Y0 res.2)], 0, 0x009a⟩] ∧ d = (eI res.1)) :=
 au Tryz.func46 Z4.eq_1 (.o (.o (.i .z (.i .z (.i .z (.g [0, 1, 5] [0] [] [] (.o (.o (.o (.d [0, 1, 2, 3, 4, 5, 6, 7, 8, 9, 10, 11, 12, 13, 14, 15, 16, 17, 18, 19, 20, 21, 22, 23, 24, 25, 26, 27, 28, 29, 30, 31, 32, 33, 34, 35, 36, 37, 38, 39, 40, 41, 42, 43, 44, 45] [0] [] .z))))))))))
end Go.Proofs.YtbdkbdafhlcilaaGreat
