import Derived.Test.YtbdkbdafhlcilaaGreatCJMir
import Derived.Test.YtbdkbdafhlcilaaGreatCJAuto
import Derived.Test.YtbdkbdafhlcilaaGreatCJAuI
set_option linter.unusedSimpArgs false
set_option linter.unusedVariables false
set_option linter.unusedSimpArgs false
set_option linter.unusedVariables false
namespace Go.Proofs.YtbdkbdafhlcilaaGreat
open Go Go.RowKit
set_option maxRecDepth 100000
set_option maxHeartbeats 20000000
instance W7p : ∀ (p0 : Q7d) (p1 : Int), Ct (Q9p p0 p1) fun res => Q7 Tryz.prog 0o00265 [(.agg (Q6i p0)), (eI p1)] (fun d => d = (eB res)) :=
 au Tryz.func181 Q9p.eq_1 .z
end Go.Proofs.YtbdkbdafhlcilaaGreat
set_option linter.unusedSimpArgs false
set_option linter.unusedVariables false
namespace Go.Proofs.YtbdkbdafhlcilaaGreat
open Go Go.RowKit
set_option maxRecDepth 100000
set_option maxHeartbeats 20000000
instance W5j : ∀ (n : Nat) (p0 : (List Q3)) (p1 : Int) (p2 : Int), Ct (Q8u n p0 p1 p2) fun res => Q7 Tryz.prog 0o00360 [(.slice 2 (List.map X2 p0)), (eI p1), (eI p2)] (fun d => d = (eB res)) :=
 au Tryz.func240 Q8u.eq_1 (.o (.o (.o (.o (.w [] [] [0, 1, 2, 7] [] (fun (s3024 : Int) => [(7, eI s3024)]) (fun s3024 => []) (fun s3024 => .i (.j 4 1 [0, 1, 2, 7] [] (fun (s3346 : Unit) => []) (fun _ => []) (.g [0, 1, 2, 7] [] [] [] (.i (.o (.o (.d [0, 1, 2, 3, 4, 5, 6, 7, 8, 9, 10, 11, 12, 13, 14, 15] [] [] .z))) (.d [0, 1, 2, 3, 4, 5, 6, 7, 8, 9, 10, 11, 12, 13, 14, 15] [] [] .z))) (fun s3346 => .b fun (x3485 : Q3) => .le 0 1 3 Q6i x3485.ctors x3485 (.f [0, 1, 2, 7] [] [0, 1, 2, 7, 8] [] (fun (k3592 : Nat) (s3588 : Unit) => [(8, eI (k3592 : Int))]) (fun k3592 s3588 => []) (fun k3592 s3588 => .o (.j 7 0 [0, 1, 2, 7, 8] [] (fun (s3602 : Unit) => []) (fun _ => []) .z (fun s3602 => .j 9 0 [0, 1, 2, 7, 8] [] (fun (s3621 : Unit) => []) (fun _ => []) (.g [0, 1, 2, 7, 8] [] [] [] (.o (.i (.o (.d [0, 1, 2, 3, 4, 5, 6, 7, 8, 9, 10, 11, 12, 13, 14, 15, 16, 17, 18, 19, 20, 21, 22, 23, 24, 25, 26, 27, 28] [] [] .z)) (.d [0, 1, 2, 3, 4, 5, 6, 7, 8, 9, 10, 11, 12, 13, 14, 15, 16, 17, 18, 19, 20, 21, 22, 23, 24, 25, 26, 27, 28] [] [] .z)))) (fun _ => .z)))) (fun s3596 => .z)))) .z) (fun s3032 => .z))))))
end Go.Proofs.YtbdkbdafhlcilaaGreat
set_option linter.unusedSimpArgs false
set_option linter.unusedVariables false
namespace Go.Proofs.YtbdkbdafhlcilaaGreat
open Go Go.RowKit
set_option maxRecDepth 100000
set_option maxHeartbeats 20000000
instance W9v : ∀ (p0 : Int), Ct (Q8m p0) fun res => Q7 Tryz.prog 0o00431 [(.val (.int .u8 p0))] (fun d => d = (eB res)) :=
 au Tryz.func281 Q8m.eq_1 .z
end Go.Proofs.YtbdkbdafhlcilaaGreat
set_option linter.unusedSimpArgs false
set_option linter.unusedVariables false
namespace Go.Proofs.YtbdkbdafhlcilaaGreat
open Go Go.RowKit
set_option maxRecDepth 100000
set_option maxHeartbeats 20000000
instance W7v : ∀ (n : Nat) (p0 : ByteArray) (p1 : Int), Ct (Q3c n p0 p1) fun res => Q7 Tryz.prog 0o00412 [(eS p0), (.val (.int .u8 p1))] (fun d => d = (.slice 1 (List.map rS res))) :=
 au Tryz.func266 Q3c.eq_1 (.o (.o (.o (.w [5] [8] [0, 1, 5, 6, 7] [8] (fun (s203 : (List ByteArray) × Int × Int) => [(5, .sl 1 8 (s203.1).length), (6, eI s203.2.1), (7, eI s203.2.2)]) (fun s203 => [(8, some ⟨1, (List.map rS s203.1), 0, 0x0009⟩)]) (fun s203 => .i (.j 6 0 [0, 1, 5, 6, 7] [0] (fun (s230 : (List ByteArray) × Int) => [(5, .sl 1 0 (s230.1).length), (6, eI s230.2)]) (fun s230 => [(0, some ⟨1, (List.map rS s230.1), 0, 0x0009⟩)]) .z (fun _ => .z)) .z) (fun s211 => .z)))))
end Go.Proofs.YtbdkbdafhlcilaaGreat
set_option linter.unusedSimpArgs false
set_option linter.unusedVariables false
namespace Go.Proofs.YtbdkbdafhlcilaaGreat
open Go Go.RowKit
set_option maxRecDepth 100000
set_option maxHeartbeats 20000000
instance W7e : ∀ (p0 : Int), Ct (Q6l p0) fun res => Q7 Tryz.prog 0o00433 [(eI p0)] (fun d => d = (eI res)) :=
 au Tryz.func283 Q6l.eq_1 .z
end Go.Proofs.YtbdkbdafhlcilaaGreat
set_option linter.unusedSimpArgs false
set_option linter.unusedVariables false
namespace Go.Proofs.YtbdkbdafhlcilaaGreat
open Go Go.RowKit
set_option maxRecDepth 100000
set_option maxHeartbeats 20000000
instance W9u : ∀ (p0 : (List Int)) (p1 : Int), Ct (Q53 p0 p1) fun res => Q7 Tryz.prog 0o00136 [(.slice 1 (List.map rI p0)), (eI p1)] (fun d => d = (eB res)) :=
 au Tryz.func94 Q53.eq_1 (.o (.o (.ls 0 (.f [] [] [0, 1, 5] [] (fun (k44 : Nat) (s40 : Unit) => [(5, eI (k44 : Int))]) (fun k44 s40 => []) (fun k44 s40 => .z) (fun s48 => .z)))))
end Go.Proofs.YtbdkbdafhlcilaaGreat
set_option linter.unusedSimpArgs false
set_option linter.unusedVariables false
namespace Go.Proofs.YtbdkbdafhlcilaaGreat
open Go Go.RowKit
set_option maxRecDepth 100000
set_option maxHeartbeats 20000000
instance W3t : ∀ (p0 : (List Q3)) (p1 : Q2) (p2 : Int), Ct (Q06 p0 p1 p2) fun res => Q7 Tryz.prog 0o00205 [(.slice 2 (List.map X2 p0)), (.agg (Z6 p1)), (eI p2)] (fun d => d = (.slice 2 (List.map Z6 res))) :=
 au Tryz.func133 Q06.eq_1 (.o (.o (.o (.o (.o (.j 3 0 [7, 8] [88] (fun (s4 : Int) => [(8, eI s4)]) (fun _ => []) .z (fun s4 => .pN 9 2 0x0019 (.ls 28 (.f [9] [41] [8, 9, 28, 29, 30] [41] (fun (k103 : Nat) (s99 : (List Q2)) => [(9, .sl 2 41 (s99).length), (30, eI (k103 : Int))]) (fun k103 s99 => [(41, some ⟨2, (List.map Z6 s99), 0, 0x0019⟩)]) (fun k103 s99 => .b fun (x104 : Q2) => .j 9 0 [8, 9, 11, 28, 29, 30] [0, 25] (fun (s115 : Int) => []) (fun s115 => [(25, some ⟨2, [[(eI x104.data), (eI s115)]], 0, 0x0019⟩)]) .z (fun _ => .z)) (fun s107 => .z))))))))))
end Go.Proofs.YtbdkbdafhlcilaaGreat
set_option linter.unusedSimpArgs false
set_option linter.unusedVariables false
namespace Go.Proofs.YtbdkbdafhlcilaaGreat
open Go Go.RowKit
set_option maxRecDepth 100000
set_option maxHeartbeats 20000000
instance Z85 : ∀ (p0 : (List Q8)) (p1 : (Q8 → Option Bool)) {p1_f : FuncId} {p1_c : List D} [p1_i : CF1 (fun a0 => (.agg (V5 a0))) (fun r => (eB r)) p1 p1_f p1_c], Ct (Q33 p0 p1) fun res => Q7 Tryz.prog 0o00473 [(.slice 3 (List.map V5 p0)), .clos p1_f p1_c] (fun d => d = (eI res)) :=
 au Tryz.func315 Q33.eq_1 (.o (.o (.o (.o (.o (.ls 0 (.f [] [] [0, 1, 7, 8] [] (fun (k54 : Nat) (s50 : Unit) => [(8, eI (k54 : Int))]) (fun k54 s50 => []) (fun k54 s50 => .z) (fun s58 => .z))))))))
end Go.Proofs.YtbdkbdafhlcilaaGreat
set_option linter.unusedSimpArgs false
set_option linter.unusedVariables false
namespace Go.Proofs.YtbdkbdafhlcilaaGreat
open Go Go.RowKit
set_option maxRecDepth 100000
set_option maxHeartbeats 20000000
instance Z86 : ∀ (p0 : (List Q0)) (p1 : (Q0 → Option Bool)) {p1_f : FuncId} {p1_c : List D} [p1_i : CF1 (fun a0 => (.agg (Q1 a0))) (fun r => (eB r)) p1 p1_f p1_c], Ct (J9 p0 p1) fun res => Q7 Tryz.prog 0o00371 [(.slice 6 (List.map Q1 p0)), .clos p1_f p1_c] (fun d => d = (eI res)) :=
 au Tryz.func249 J9.eq_1 (.o (.o (.o (.o (.o (.ls 0 (.f [] [] [0, 1, 7, 8] [] (fun (k54 : Nat) (s50 : Unit) => [(8, eI (k54 : Int))]) (fun k54 s50 => []) (fun k54 s50 => .z) (fun s58 => .z))))))))
end Go.Proofs.YtbdkbdafhlcilaaGreat
set_option linter.unusedSimpArgs false
set_option linter.unusedVariables false
namespace Go.Proofs.YtbdkbdafhlcilaaGreat
open Go Go.RowKit
set_option maxRecDepth 100000
set_option maxHeartbeats 20000000
theorem Z0c (p0 : (List Q0)) (res : (List Q0)) (h : Y4 p0 = some res) : Q17 Tryz.prog 0o00200 [] [(.slice 6 (List.map Q1 p0))] (fun H d => H = [some ⟨6, List.map Q1 res, 0, 0x0064⟩] ∧ d = .sl 6 0 res.length) := by
 unfold Y4 at h
 refine CH Tryz.func128 [.tmp 2] 0 fun β hβ => ?_
 refine sZ ?_
 apply sq
 refine sk fun K hK => ?_
 simp
 refine ⟨?_, fun hnil => ?_⟩
 ·apply hK
  refine cF ?_
  apply TrD.skip
  apply sq
  obtain ⟨x3, hx3, h⟩ := bindE h
  have hx3_r := (Z1k hx3).2
  try simp only [List.length_nil, Nat.zero_add] at hx3_r
  obtain hhx3 := X6f hx3
  subst hhx3
  refine rZ ?_ fun K hK => by simp [hx3_r]; exact hK
  cases h
  apply TrD.ret
  refine X8c (σ' := ⟨(updD (fun _ => .any) 2 (.sl 6 0 (p0).length)), hOfO [some ⟨6, (List.map Q1 p0), 0, 0x0064⟩], 1, 8⟩) ?_ ?_
  ·exact gC [40]
  dsimp only [resD]
  exact eA
 replace h : some ([]) = some res := by simp only [hnil] at h; simpa [app] using h
 apply hK
 refine cT ?_
 refine sZ ?_
 cases h
 apply TrD.ret
 refine X8c (σ' := ⟨(updD (fun _ => .any) 2 (.sl 6 0 0)), hOfO [some ⟨6, (List.map Q1 []), 0, 0x0064⟩], 1, 8⟩) ?_ ?_
 ·refine (J1.ownNil (s := 2) (by simp) 6 0x0064).trans ?_
  exact gC [32]
 dsimp only [resD]
 exact eA
instance X1i : ∀ (p0 : (List Q0)), Ct (Y4 p0) fun res => Q17 Tryz.prog 0o00200 [] [(.slice 6 (List.map Q1 p0))] (fun H d => H = [some ⟨6, List.map Q1 res, 0, 0x0064⟩] ∧ d = .sl 6 0 res.length) := fun p0 => ⟨Z0c p0⟩
end Go.Proofs.YtbdkbdafhlcilaaGreat
