import Derived.Test.YtbdkbdafhlcilaaGreatBJMir
import Derived.Test.YtbdkbdafhlcilaaGreatBJMa0
import Derived.Test.YtbdkbdafhlcilaaGreatBJAuto
import Derived.Test.YtbdkbdafhlcilaaGreatBJAuI
import Derived.Test.YtbdkbdafhlcilaaGreatBJAut
import Derived.Test.YtbdkbdafhlcilaaGreatBJZap
import Derived.Test.YtbdkbdafhlcilaaGreatBJZip
import Derived.Test.YtbdkbdafhlcilaaGreatBJDat
import Derived.Test.YtbdkbdafhlcilaaGreatBJE1
import Derived.Test.YtbdkbdafhlcilaaGreatBJE0
import Derived.Test.YtbdkbdafhlcilaaGreatBJTys
import Derived.Test.YtbdkbdafhlcilaaGreatProg
import Derived.Test.YtbdkbdafhlcilaaGreatBJC0a0
import Derived.Test.YtbdkbdafhlcilaaGreatBJC0c0
import Derived.Test.YtbdkbdafhlcilaaGreatBJC1b0
import Derived.Test.YtbdkbdafhlcilaaGreatBJC0d0
import Derived.Test.YtbdkbdafhlcilaaGreatBJC0b0
import Derived.Test.YtbdkbdafhlcilaaGreatBJC5d0
import Derived.Test.YtbdkbdafhlcilaaGreatBJC4c0
import Derived.Test.YtbdkbdafhlcilaaGreatBJC3c0
import Derived.Test.YtbdkbdafhlcilaaGreatBJC2c0
import Derived.Test.YtbdkbdafhlcilaaGreatBJC1d0
import Derived.Test.YtbdkbdafhlcilaaGreatBJC1a0
import Derived.Test.YtbdkbdafhlcilaaGreatBJC6c0
import Derived.Test.YtbdkbdafhlcilaaGreatBJC4b0
import Derived.Test.YtbdkbdafhlcilaaGreatBJC2a0
import Derived.Test.YtbdkbdafhlcilaaGreatBJC1c0
import Derived.Test.YtbdkbdafhlcilaaGreatBJC3a0
import Derived.Test.YtbdkbdafhlcilaaGreatBJC2b0
import Derived.Test.YtbdkbdafhlcilaaGreatBJC3b0
import Derived.Test.YtbdkbdafhlcilaaGreatBJC4a0
import Derived.Test.YtbdkbdafhlcilaaGreatBJC2d0
import Derived.Test.YtbdkbdafhlcilaaGreatBJC6b0
import Derived.Test.YtbdkbdafhlcilaaGreatBJC5b0
import Derived.Test.YtbdkbdafhlcilaaGreatBJC4d0
import Derived.Test.YtbdkbdafhlcilaaGreatBJC3d0
import Derived.Test.YtbdkbdafhlcilaaGreatBJC5c0
import Derived.Test.YtbdkbdafhlcilaaGreatBJC6a0
import Derived.Test.YtbdkbdafhlcilaaGreatBJC5a0
set_option linter.unusedSimpArgs false
set_option linter.unusedVariables false
set_option linter.unusedSimpArgs false
set_option linter.unusedVariables false
namespace Go.Proofs.YtbdkbdafhlcilaaGreat
open Go Go.RowKit
set_option maxRecDepth 100000
set_option maxHeartbeats 20000000
instance X7b : ∀ (n : Nat) (p0 : (List Q3)) (p1 : Q5) (p2 : Int), Ct (Q0g n p0 p1 p2) fun res => Z1 Tryz.prog 0o00130 [(.slice 2 (List.map X9 p0)), (.agg (X7 p1)), (eI p2)] (fun d => d = (eI res)) :=
 ar (au Tryz.func88 Q0g.eq_2 (.o (.o (.o (.o (.o (.i .z (.i .z (.o (.ls 20 (.f [7] [] [0, 2, 4, 7, 20, 21, 22] [0] (fun (k582 : Nat) (s578 : Int) => [(7, eI s578), (22, eI (k582 : Int))]) (fun k582 s578 => []) (fun k582 s578 => .o (.o (.ls 29 (.f [0, 2, 4, 7, 10, 20, 21, 22] [0] [0, 2, 4, 7, 10, 20, 21, 22, 29, 30, 31] [0] (fun (k688 : Nat) (s684 : Int) => [(10, eI s684), (31, eI (k688 : Int))]) (fun k688 s684 => []) (fun k688 s684 => .z) (fun s692 => .z))))) (fun s586 => .z))))))))))))
end Go.Proofs.YtbdkbdafhlcilaaGreat
set_option linter.unusedSimpArgs false
set_option linter.unusedVariables false
namespace Go.Proofs.YtbdkbdafhlcilaaGreat
open Go Go.RowKit
set_option maxRecDepth 100000
set_option maxHeartbeats 20000000
instance W7i : ∀ (p0 : Int), Ct (Q7e p0) fun res => Z1 Tryz.prog 0o00253 [(eI p0)] (fun d => d = (.agg (X0 res))) :=
 au Tryz.func171 Q7e.eq_1 .z
end Go.Proofs.YtbdkbdafhlcilaaGreat
set_option linter.unusedSimpArgs false
set_option linter.unusedVariables false
namespace Go.Proofs.YtbdkbdafhlcilaaGreat
open Go Go.RowKit
set_option maxRecDepth 100000
set_option maxHeartbeats 20000000
instance W2r : ∀ (n : Nat) (p0 : Q5) (q0 : (List Q3)) (q1 : Int), Ct (Q4o n p0 q0 q1) fun res => Z1 Tryz.prog 0o00255 [(.agg (X7 p0)), .cptr [(.slice 2 (List.map X9 q0))], .cptr [(eI q1)]] (fun d => d = (eB res)) :=
 au Tryz.func173 Q4o.eq_1 .z
end Go.Proofs.YtbdkbdafhlcilaaGreat
set_option linter.unusedSimpArgs false
set_option linter.unusedVariables false
namespace Go.Proofs.YtbdkbdafhlcilaaGreat
open Go Go.RowKit
set_option maxRecDepth 100000
set_option maxHeartbeats 20000000
theorem Z17 (p0 : (List Q1)) (res : (List Q1)) (h : Q1b p0 = some res) : J8 Tryz.prog 0o00256 [] [(.slice 3 (List.map X0 p0))] (fun H d => H = [some ⟨3, List.map X0 res, 0, 0x0038⟩] ∧ d = .sl 3 0 res.length) := by
 unfold Q1b at h
 refine CH Tryz.func174 [.tmp 2] 0 fun β hβ => ?_
 refine sZ ?_
 apply sq
 refine sk fun K hK => ?_
 simp
 refine ⟨?_, fun hnil => ?_⟩
 ·apply hK
  refine cF ?_
  apply TrD.skip
  apply sq
  obtain ⟨x3, hx3, h⟩ := bindE h
  have hx3_r := (Q7g hx3).2
  try simp only [List.length_nil, Nat.zero_add] at hx3_r
  obtain hhx3 := Z4d hx3
  subst hhx3
  refine rZ ?_ fun K hK => by simp [hx3_r]; exact hK
  cases h
  apply TrD.ret
  refine Z1f (σ' := ⟨(updD (fun _ => .any) 2 (.sl 3 0 (p0).length)), hOfO [some ⟨3, (List.map X0 p0), 0, 0x0038⟩], 1, 8⟩) ?_ ?_
  ·exact gC [40]
  dsimp only [resD]
  exact eA
 replace h : some ([]) = some res := by simp only [hnil] at h; simpa [app] using h
 apply hK
 refine cT ?_
 refine sZ ?_
 cases h
 apply TrD.ret
 refine Z1f (σ' := ⟨(updD (fun _ => .any) 2 (.sl 3 0 0)), hOfO [some ⟨3, (List.map X0 []), 0, 0x0038⟩], 1, 8⟩) ?_ ?_
 ·refine (Y2.ownNil (s := 2) (by simp) 3 0x0038).trans ?_
  exact gC [32]
 dsimp only [resD]
 exact eA
instance X42 : ∀ (p0 : (List Q1)), Ct (Q1b p0) fun res => J8 Tryz.prog 0o00256 [] [(.slice 3 (List.map X0 p0))] (fun H d => H = [some ⟨3, List.map X0 res, 0, 0x0038⟩] ∧ d = .sl 3 0 res.length) := fun p0 => ⟨Z17 p0⟩
end Go.Proofs.YtbdkbdafhlcilaaGreat
set_option linter.unusedSimpArgs false
set_option linter.unusedVariables false
namespace Go.Proofs.YtbdkbdafhlcilaaGreat
open Go Go.RowKit
set_option maxRecDepth 100000
set_option maxHeartbeats 20000000
instance W7g : ∀ (n : Nat) (p0 : (List Q3)) (p1 : Q5) (p2 : Int), Ct (Q34 n p0 p1 p2) fun res => Z1 Tryz.prog 0o00131 [(.slice 2 (List.map X9 p0)), (.agg (X7 p1)), (eI p2)] (fun d => d = (.slice 3 (List.map X0 res))) :=
 ar (au Tryz.func89 Q34.eq_2 (.o (.o (.o (.o (.o (.i .z (.i (.pN 7 3 0x0038 (.w [7] [88] [7, 26] [88] (fun (s110 : (List Q1) × Int) => [(7, .sl 3 88 (s110.1).length), (26, eI s110.2)]) (fun s110 => [(88, some ⟨3, (List.map X0 s110.1), 0, 0x0038⟩)]) (fun s110 => .z) (fun s118 => .z))) (.o (.pN 7 3 0x0038 (.ls 38 (.f [7] [120] [3, 4, 5, 7, 38, 39, 40] [0, 8, 16, 120] (fun (k60277 : Nat) (s60273 : (List Q1)) => [(7, .sl 3 120 (s60273).length), (40, eI (k60277 : Int))]) (fun k60277 s60273 => [(120, some ⟨3, (List.map X0 s60273), 0, 0x0038⟩)]) (fun k60277 s60273 => .o (.j 13 0 [3, 4, 5, 7, 38, 39, 40] [0, 1, 2, 3] (fun (s66292 : (List Q1)) => [(7, .sl 3 3 (s66292).length)]) (fun s66292 => [(3, some ⟨3, (List.map X0 s66292), 0, 0x0038⟩)]) (.o (.o (.i .z (.ls 47 (.f [3, 4, 5, 7, 12, 38, 39, 40] [0, 1, 2, 3, 116] [3, 4, 5, 7, 10, 12, 38, 39, 40, 54, 55, 56] [0, 1, 2, 3, 116] (fun (k71305 : Nat) (s71301 : (List Q1)) => [(12, .sl 3 116 (s71301).length), (56, eI (k71305 : Int))]) (fun k71305 s71301 => [(116, some ⟨3, (List.map X0 s71301), 0, 0x0038⟩)]) (fun k71305 s71301 => .o (.o (.pN 16 3 0x0038 (.ll 4 (.f [3, 4, 5, 7, 10, 16, 38, 39, 40, 54, 55, 56] [0, 1, 2, 3, 125] [3, 4, 5, 7, 10, 15, 16, 38, 39, 40, 54, 55, 56, 65, 66, 67] [0, 1, 2, 3, 125, 4] (fun (k72223 : Nat) (s72219 : (List Q1)) => [(16, .sl 3 125 (s72219).length), (67, eI (k72223 : Int))]) (fun k72223 s72219 => [(125, some ⟨3, (List.map X0 s72219), 0, 0x0038⟩)]) (fun k72223 s72219 => .o (.ls 15 (.f [3, 4, 5, 7, 10, 15, 16, 38, 39, 40, 54, 55, 56, 65, 66, 67] [0, 1, 2, 3, 4, 5] [3, 4, 5, 7, 10, 15, 16, 18, 38, 39, 40, 54, 55, 56, 65, 66, 67, 71, 72, 73] [0, 1, 2, 3, 4, 30, 5] (fun (k72293 : Nat) (s72289 : (List Q1)) => [(16, .sl 3 4 (s72289).length), (73, eI (k72293 : Int))]) (fun k72293 s72289 => [(4, some ⟨3, (List.map X0 s72289), 0, 0x0038⟩)]) (fun k72293 s72289 => .o (.g [3, 4, 5, 7, 10, 15, 16, 18, 20, 38, 39, 40, 54, 55, 56, 65, 66, 67, 71, 72, 73] [0, 1, 2, 3, 4, 5, 31, 6] [] [] (.o (.o (.o (.dz [0, 1, 2, 3, 5, 4, 6, 7, 8, 9, 10, 11] [5, 6] [1048659] [] (.pF 2097160 .z))))))) (fun s72297 => .z)))) (fun s72227 => .z)))))) (fun s71309 => .z)))))) (fun _ => .z))) (fun s60281 => .z)))))))))))))
end Go.Proofs.YtbdkbdafhlcilaaGreat
set_option linter.unusedSimpArgs false
set_option linter.unusedVariables false
namespace Go.Proofs.YtbdkbdafhlcilaaGreat
open Go Go.RowKit
set_option maxRecDepth 100000
set_option maxHeartbeats 20000000
instance X9a : ∀ (n : Nat) (p0 : (List Q3)) (p1 : Q5) (p2 : Int), Ct (Q13 n p0 p1 p2) fun res => Z1 Tryz.prog 0o00046 [(.slice 2 (List.map X9 p0)), (.agg (X7 p1)), (eI p2)] (fun d => d = .tup [(.slice 3 (List.map X0 res.1)), (eB res.2)]) :=
 au Tryz.func38 Q13.eq_1 (.o (.o (.o (.o (.o (.i .z (.o (.i .z (.o (.i .z (.o (.pN 8 3 0x0038 (.ls 30 (.f [8] [208] [8, 30, 31, 32] [208] (fun (k92 : Nat) (s88 : (List Q1)) => [(8, .sl 3 208 (s88).length), (32, eI (k92 : Int))]) (fun k92 s88 => [(208, some ⟨3, (List.map X0 s88), 0, 0x0038⟩)]) (fun k92 s88 => .z) (fun s96 => .z)))))))))))))))
end Go.Proofs.YtbdkbdafhlcilaaGreat
set_option linter.unusedSimpArgs false
set_option linter.unusedVariables false
namespace Go.Proofs.YtbdkbdafhlcilaaGreat
open Go Go.RowKit
set_option maxRecDepth 100000
set_option maxHeartbeats 20000000
instance W32 : ∀ (n : Nat) (p0 : (List Q3)) (p1 : Q5) (p2 : (List Q6)) (p3 : Int) (p4 : Int), Ct (Q2j n p0 p1 p2 p3 p4) fun res => Z1 Tryz.prog 0o00030 [(.slice 2 (List.map X9 p0)), (.agg (X7 p1)), (.slice 9 (List.map V0 p2)), (eI p3), (eI p4)] (fun d => d = .tup [(eI res.1), (eB res.2)]) :=
 au Tryz.func24 Q2j.eq_1 (.o (.o (.o (.o (.o (.o (.o (.o (.i .z (.i .z (.ls 35 (.f [16] [] [2, 12, 16, 43, 44, 45] [88] (fun (k58 : Nat) (s54 : Int) => [(16, eI s54), (45, eI (k58 : Int))]) (fun k58 s54 => []) (fun k58 s54 => .z) (fun s62 => .z)))))))))))))
end Go.Proofs.YtbdkbdafhlcilaaGreat
set_option linter.unusedSimpArgs false
set_option linter.unusedVariables false
namespace Go.Proofs.YtbdkbdafhlcilaaGreat
open Go Go.RowKit
set_option maxRecDepth 100000
set_option maxHeartbeats 20000000
instance W4s : ∀ (p0 : (List (List Q1))) (p1 : Int), Ct (Q4d p0 p1) fun res => Z1 Tryz.prog 0o00333 [(.slice 1 (List.map (rL 3 X0) p0)), (eI p1)] (fun d => d = (.slice 1 (List.map (rL 3 X0) res))) :=
 au Tryz.func219 Q4d.eq_1 (.o (.o (.pF 8 (.ls 0 (.f [5] [16] [0, 1, 5, 6] [16] (fun (k12196 : Nat) (s12192 : (List (List Q1))) => [(5, .sl 1 16 (s12192).length), (6, eI (k12196 : Int))]) (fun k12196 s12192 => [(16, some ⟨1, (List.map (rL 3 X0) s12192), 0, 0x001b⟩)]) (fun k12196 s12192 => .b fun (x12197 : (List Q1)) => .ll 0 (.f [0, 1, 6, 7] [33] [0, 1, 5, 6, 7, 8] [0, 33] (fun (k13570 : Nat) (s13566 : (List (List Q1))) => [(7, .sl 1 33 (s13566).length), (8, eI (k13570 : Int))]) (fun k13570 s13566 => [(33, some ⟨1, (List.map (rL 3 X0) s13566), 0, 0x001b⟩)]) (fun k13570 s13566 => .o (.i (.le 0 0 3 X0 x12197 x12197 (.f [0, 1, 5, 6, 7, 8] [0, 1] [0, 1, 5, 6, 7, 8, 9] [0, 1] (fun (k13668 : Nat) (s13664 : (List (List Q1))) => [(7, .sl 1 1 (s13664).length), (9, eI (k13668 : Int))]) (fun k13668 s13664 => [(1, some ⟨1, (List.map (rL 3 X0) s13664), 0, 0x001b⟩)]) (fun k13668 s13664 => .o (.i (.g [0, 1, 5, 6, 7, 8, 9] [0, 1] [] [] (.o (.o (.o (.dz [0, 2, 3, 4, 5, 7, 8, 9, 10, 11, 12, 13, 1, 6, 14, 15, 16, 17, 18] [0] [1048636] [] (.pF 2097168 .z)))))) .z)) (fun s13672 => .z))) .z)) (fun s13574 => .z))) (fun s12200 => .z))))))
end Go.Proofs.YtbdkbdafhlcilaaGreat
set_option linter.unusedSimpArgs false
set_option linter.unusedVariables false
namespace Go.Proofs.YtbdkbdafhlcilaaGreat
open Go Go.RowKit
set_option maxRecDepth 100000
set_option maxHeartbeats 20000000
instance W96 : ∀ (n : Nat) (p0 : (List Q3)) (p1 : Q5) (p2 : Int) (p3 : Int), Ct (Q3x n p0 p1 p2 p3) fun res => J8 Tryz.prog 0o00223 [] [(.slice 2 (List.map X9 p0)), (.agg (X7 p1)), (eI p2), (eI p3)] (fun H d => H = [some ⟨3, List.map X0 res, 0, 0x0038⟩] ∧ d = .sl 3 0 res.length) :=
 ar (au Tryz.func147 Q3x.eq_2 (.o (.o (.o (.o (.o (.o (.i .z (.i (.w [9] [16] [9, 10] [16] (fun (s88 : (List Q1) × Int) => [(9, .sl 3 16 (s88.1).length), (10, eI s88.2)]) (fun s88 => [(16, some ⟨3, (List.map X0 s88.1), 0, 0x0038⟩)]) (fun s88 => .z) (fun s96 => .z)) (.o (.ls 37 (.f [9] [16] [0, 2, 3, 5, 9, 11, 12] [0, 16] (fun (k1231 : Nat) (s1227 : (List Q1)) => [(9, .sl 3 16 (s1227).length), (12, eI (k1231 : Int))]) (fun k1231 s1227 => [(16, some ⟨3, (List.map X0 s1227), 0, 0x0038⟩)]) (fun k1231 s1227 => .o (.i (.g [0, 2, 3, 5, 9, 11, 12] [0, 1] [] [] (.o (.d [0, 1, 2, 3, 4, 5, 6, 7] [0] [] (.ls 56 (.f [0, 2, 3, 5, 9, 11, 12, 14] [0, 1, 10] [0, 2, 3, 5, 9, 11, 12, 13, 14, 15] [0, 1, 10] (fun (k1400 : Nat) (s1396 : (List (List Q1))) => [(14, .sl 1 10 (s1396).length), (15, eI (k1400 : Int))]) (fun k1400 s1396 => [(10, some ⟨1, (List.map (rL 3 X0) s1396), 0, 0x001b⟩)]) (fun k1400 s1396 => .o (.o (.o (.pF 108 .z)))) (fun s1404 => .o (.ls 78 (.f [0, 2, 3, 5, 9, 11, 12] [0, 1] [0, 2, 3, 5, 9, 11, 12, 16, 17] [0, 1] (fun (k1441 : Nat) (s1437 : (List Q1)) => [(9, .sl 3 1 (s1437).length), (17, eI (k1441 : Int))]) (fun k1441 s1437 => [(1, some ⟨3, (List.map X0 s1437), 0, 0x0038⟩)]) (fun k1441 s1437 => .o (.i (.g [0, 2, 3, 5, 9, 11, 12, 16, 17] [0, 1] [] [] (.o (.d [0, 1, 2, 3, 4, 5, 6, 7, 8, 9, 10, 11, 12] [] [] .z))) .z)) (fun s1445 => .z))))))))) .z)) (fun s1235 => .z)))))))))))))
end Go.Proofs.YtbdkbdafhlcilaaGreat
set_option linter.unusedSimpArgs false
set_option linter.unusedVariables false
namespace Go.Proofs.YtbdkbdafhlcilaaGreat
open Go Go.RowKit
set_option maxRecDepth 100000
set_option maxHeartbeats 20000000
instance X92 : ∀ (n : Nat) (p0 : (List Q3)) (p1 : Q5) (p2 : Int), Ct (Q29 n p0 p1 p2) fun res => Z1 Tryz.prog 0o00106 [(.slice 2 (List.map X9 p0)), (.agg (X7 p1)), (eI p2)] (fun d => d = .tup [(.slice 3 (List.map X0 res.1)), (eB res.2)]) :=
 au Tryz.func70 Q29.eq_1 (.o (.o (.o (.o (.o (.i .z (.i .z (.i .z (.o (.i .z (.w [8] [145] [8, 9] [145] (fun (s81 : (List Q1) × Int) => [(8, .sl 3 145 (s81.1).length), (9, eI s81.2)]) (fun s81 => [(145, some ⟨3, (List.map X0 s81.1), 0, 0x0038⟩)]) (fun s81 => .z) (fun s89 => .z))))))))))))
end Go.Proofs.YtbdkbdafhlcilaaGreat
set_option linter.unusedSimpArgs false
set_option linter.unusedVariables false
namespace Go.Proofs.YtbdkbdafhlcilaaGreat
open Go Go.RowKit
set_option maxRecDepth 100000
set_option maxHeartbeats 20000000
instance W2p : ∀ (n : Nat) (p0 : (List Q3)) (p1 : Q5) (p2 : (List Q6)) (p3 : Int) (p4 : Int), Ct (Q3q n p0 p1 p2 p3 p4) fun res => Z1 Tryz.prog 0o00031 [(.slice 2 (List.map X9 p0)), (.agg (X7 p1)), (.slice 9 (List.map V0 p2)), (eI p3), (eI p4)] (fun d => d = .tup [(eI res.1), (eB res.2)]) :=
 au Tryz.func25 Q3q.eq_1 (.o (.o (.o (.o (.o (.o (.o (.o (.i .z (.i .z (.ls 34 (.f [16] [] [2, 12, 14, 16, 17] [88] (fun (k58 : Nat) (s54 : Int) => [(16, eI s54), (17, eI (k58 : Int))]) (fun k58 s54 => []) (fun k58 s54 => .o (.g [2, 12, 14, 16, 17] [0] [] [] (.o (.d [0, 1, 2, 3, 4, 5, 6, 7, 8, 9, 10, 11, 12, 13] [0] [] .z)))) (fun s62 => .z)))))))))))))
end Go.Proofs.YtbdkbdafhlcilaaGreat
set_option linter.unusedSimpArgs false
set_option linter.unusedVariables false
namespace Go.Proofs.YtbdkbdafhlcilaaGreat
open Go Go.RowKit
set_option maxRecDepth 100000
set_option maxHeartbeats 20000000
instance X52 : ∀ (n : Nat) (p0 : (List Int)), Ct (Q2g n p0) fun res => Z1 Tryz.prog 0o00027 [(.slice 1 (List.map (rK .u8) p0))] (fun d => d = .tup [(.slice 2 (List.map X9 res.1)), (.agg (X7 res.2.1)), (.slice 9 (List.map V0 res.2.2.1)), (eI res.2.2.2.1), (eI res.2.2.2.2)]) :=
 au Tryz.func23 Q2g.eq_1 (.o (.o (.o (.o (.o (.g [3, 7, 8, 9, 10, 11] [8, 88, 129] [] [] (.o (.d [0, 1, 2, 3, 4, 5, 6, 7, 8, 9, 10, 11] [1] [] .z))))))))
end Go.Proofs.YtbdkbdafhlcilaaGreat
set_option linter.unusedSimpArgs false
set_option linter.unusedVariables false
namespace Go.Proofs.YtbdkbdafhlcilaaGreat
open Go Go.RowKit
set_option maxRecDepth 100000
set_option maxHeartbeats 20000000
instance Z32 : ∀ (n : Nat) (p0 : (List Int)), Ct (Q1t n p0) fun res => Z1 Tryz.prog 0o00005 [(.slice 1 (List.map (rK .u8) p0))] (fun d => d = (eB res)) :=
 au Tryz.func5 Q1t.eq_1 .z
theorem Z3g (n : Nat) (p0 : (List Int)) : ∀ res, Q1t n p0 = some res → Z1 Tryz.prog 0o00005 [(.slice 1 (List.map (rK .u8) p0))] (fun d => d = (eB res)) := (Z32 n p0).pf
end Go.Proofs.YtbdkbdafhlcilaaGreat
