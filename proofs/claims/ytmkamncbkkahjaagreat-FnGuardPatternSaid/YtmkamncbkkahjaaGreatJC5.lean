import Derived.Test.YtmkamncbkkahjaaGreatJMir
import Derived.Test.YtmkamncbkkahjaaGreatJAuto
import Derived.Test.YtmkamncbkkahjaaGreatJC4
import Derived.Test.YtmkamncbkkahjaaGreatJC3
import Derived.Test.YtmkamncbkkahjaaGreatJAuI
set_option linter.unusedSimpArgs false
set_option linter.unusedVariables false
set_option linter.unusedSimpArgs false
set_option linter.unusedVariables false
namespace Go.Proofs.YtmkamncbkkahjaaGreat
open Go Go.RowKit
set_option maxRecDepth 100000
set_option maxHeartbeats 20000000
instance i_spec_l3Text : ∀ (n : Nat) (p0 : (List GData)) (p1 : GType) (p2 : GPattern), Ct (m_spec_l3Text n p0 p1 p2) fun res => CallsD Tryz.prog 0o00377 [(.slice 2 (List.map rGData p0)), (.agg (rGType p1)), (.agg (rGPattern p2))] (fun d => d = (eS res)) :=
 ar (au Tryz.func255 m_spec_l3Text.eq_2 (.o (.o (.o (.o (.o (.i .z (.i .z (.i (.i .z (.g [5] [8] [] [] (.o (.o (.o (.o (.d [0, 1, 4, 5, 2, 3, 6, 7, 8] [0] [] .z))))))) (.i (.g [0, 4, 5] [0, 8] [] [] (.o (.o (.o (.o (.o (.o (.o (.o (.d [0, 1, 2, 3, 4, 5, 9, 10, 11, 12, 13, 14, 6, 7, 8, 15, 16, 17, 18] [0, 1] [] .z)))))))))) (.i (.g [0, 4, 5] [0, 8] [] [] (.o (.o (.o (.o (.o (.d [0, 1, 4, 5, 6, 7, 8, 9, 2, 3, 10, 11, 12] [0, 1] [] .z))))))) (.g [0, 4, 5] [0, 8] [] [] (.o (.o (.d [0, 1, 2, 3, 4, 5, 6, 7, 8, 9, 10, 11] [0, 1] [] (.o (.ls 86 (.f [7, 8] [] [0, 5, 7, 8, 9] [1] (fun (k213 : Nat) (s209 : ByteArray) => [(7, eS s209), (9, eI (k213 : Int))]) (fun k213 s209 => []) (fun k213 s209 => .o (.j 19 1 [0, 5, 7, 8, 9] [0] (fun (s233 : ByteArray) => [(7, eS s233)]) (fun _ => []) .z (fun _ => .g [0, 5, 7, 8, 9] [0] [] [] (.o (.o (.o (.d [0, 1, 2, 3, 4, 5, 6, 7, 8, 9, 10, 11, 12, 13] [0] [] .z))))))) (fun s217 => .j 23 0 [7] [] (fun (s244 : ByteArray) => [(7, eS s244)]) (fun _ => []) .z (fun _ => .z))))))))))))))))))))
end Go.Proofs.YtmkamncbkkahjaaGreat
set_option linter.unusedSimpArgs false
set_option linter.unusedVariables false
namespace Go.Proofs.YtmkamncbkkahjaaGreat
open Go Go.RowKit
set_option maxRecDepth 100000
set_option maxHeartbeats 20000000
instance i_spec_l4Text : ∀ (n : Nat) (p0 : (List GData)) (p1 : GType) (p2 : GClause), Ct (m_spec_l4Text n p0 p1 p2) fun res => CallsD Tryz.prog 0o00305 [(.slice 2 (List.map rGData p0)), (.agg (rGType p1)), (.agg (rGClause p2))] (fun d => d = (eS res)) :=
 au Tryz.func197 m_spec_l4Text.eq_1 (.o (.o (.o (.o (.o (.j 2 0 [7] [] (fun (s16 : ByteArray) => [(7, eS s16)]) (fun _ => []) (.i (.g [5, 7] [8] [] [] (.o (.o (.o (.o (.o (.o (.d [0, 1, 2, 3, 4, 8, 9, 10, 5, 6, 7, 11, 12, 13] [0] [] .z)))))))) (.i (.g [5, 7] [8] [] [] (.o (.o (.o (.o (.o (.o (.d [0, 1, 2, 3, 4, 8, 9, 10, 5, 6, 7, 11, 12, 13] [0] [] .z)))))))) .z)) (fun _ => .z)))))))
end Go.Proofs.YtmkamncbkkahjaaGreat
set_option linter.unusedSimpArgs false
set_option linter.unusedVariables false
namespace Go.Proofs.YtmkamncbkkahjaaGreat
open Go Go.RowKit
set_option maxRecDepth 100000
set_option maxHeartbeats 20000000
instance i_spec_l4Texts : ∀ (n : Nat) (p0 : (List GData)) (p1 : GType) (p2 : (List GClause)), Ct (m_spec_l4Texts n p0 p1 p2) fun res => CallsD Tryz.prog 0o00177 [(.slice 2 (List.map rGData p0)), (.agg (rGType p1)), (.slice 9 (List.map rGClause p2))] (fun d => d = (eS res)) :=
 au Tryz.func127 m_spec_l4Texts.eq_1 (.o (.o (.o (.o (.ls 2 (.f [7] [] [0, 2, 4, 7, 8] [0] (fun (k126 : Nat) (s122 : ByteArray) => [(7, eS s122), (8, eI (k126 : Int))]) (fun k126 s122 => []) (fun k126 s122 => .o (.j 5 1 [0, 2, 4, 7, 8] [0] (fun (s142 : ByteArray) => [(7, eS s142)]) (fun _ => []) .z (fun _ => .g [0, 2, 4, 7, 8] [0] [] [] (.o (.o (.d [0, 1, 2, 3, 4, 5, 6, 7, 8, 9] [0] [] .z)))))) (fun s130 => .z)))))))
end Go.Proofs.YtmkamncbkkahjaaGreat
set_option linter.unusedSimpArgs false
set_option linter.unusedVariables false
namespace Go.Proofs.YtmkamncbkkahjaaGreat
open Go Go.RowKit
set_option maxRecDepth 100000
set_option maxHeartbeats 20000000
instance i_spec_ParseClauses : ∀ (n : Nat) (p0 : (List GData)) (p1 : GType) (p2 : ByteArray), Ct (m_spec_ParseClauses n p0 p1 p2) fun res => CallsD Tryz.prog 0o00075 [(.slice 2 (List.map rGData p0)), (.agg (rGType p1)), (eS p2)] (fun d => d = .tup [(.slice 9 (List.map rGClause res.1)), (eB res.2)]) :=
 au Tryz.func61 m_spec_ParseClauses.eq_1 (.o (.o (.o (.o (.o (.i .z (.o (.ls 22 (.f [0, 2, 4, 8] [0, 24] [0, 2, 4, 8, 9, 10] [0, 24] (fun (k397 : Nat) (s393 : (List GClause)) => [(8, .sl 9 24 (s393).length), (10, eI (k397 : Int))]) (fun k397 s393 => [(24, some ⟨9, (List.map rGClause s393), 0, 0x002d⟩)]) (fun k397 s393 => .o (.i (.i (.o (.g [0, 2, 4, 8, 9, 10, 11] [0, 1] [] [] (.o (.b fun (r443 : (GPattern × Int)) => .dz [0, 1, 2, 3, 4, 5, 6, 7, 8, 9, 10, 11] [0] [1048588] [] (.i .z (.i .z (.i .z (.j 13 0 [0, 2, 4, 8, 9, 10, 14] [0, 1, 2097320] (fun (s463 : Int × Int × Int) => []) (fun s463 => [(2097320, some ⟨9, [[(eI r443.1.op), (eI r443.1.ctor), (eI r443.1.n), (eI r443.1.m), (eI r443.1.var), (.slice 6 (List.map rGPattern r443.1.kids)), (eI s463.1), (eI s463.2.1), (eI s463.2.2)]], 0, 0x002d⟩)]) .z (fun _ => .z))))))))) .z) .z)) (fun s401 => .z))))))))))
theorem c_spec_ParseClauses (n : Nat) (p0 : (List GData)) (p1 : GType) (p2 : ByteArray) : ∀ res, m_spec_ParseClauses n p0 p1 p2 = some res → CallsD Tryz.prog 0o00075 [(.slice 2 (List.map rGData p0)), (.agg (rGType p1)), (eS p2)] (fun d => d = .tup [(.slice 9 (List.map rGClause res.1)), (eB res.2)]) := (i_spec_ParseClauses n p0 p1 p2).pf
end Go.Proofs.YtmkamncbkkahjaaGreat
set_option linter.unusedSimpArgs false
set_option linter.unusedVariables false
namespace Go.Proofs.YtmkamncbkkahjaaGreat
open Go Go.RowKit
set_option maxRecDepth 100000
set_option maxHeartbeats 20000000
instance i_spec_l1Slot : ∀ (p0 : GType), Ct (m_spec_l1Slot p0) fun res => CallsD Tryz.prog 0o00317 [(.agg (rGType p0))] (fun d => d = (eI res)) :=
 au Tryz.func207 m_spec_l1Slot.eq_1 .z
end Go.Proofs.YtmkamncbkkahjaaGreat
set_option linter.unusedSimpArgs false
set_option linter.unusedVariables false
namespace Go.Proofs.YtmkamncbkkahjaaGreat
open Go Go.RowKit
set_option maxRecDepth 100000
set_option maxHeartbeats 20000000
instance i_spec_l1Depth : ∀ (p0 : (List Int)) (p1 : GType), Ct (m_spec_l1Depth p0 p1) fun res => CallsD Tryz.prog 0o00212 [(.slice 1 (List.map rI p0)), (.agg (rGType p1))] (fun d => d = (eI res)) :=
 au Tryz.func138 m_spec_l1Depth.eq_1 .z
end Go.Proofs.YtmkamncbkkahjaaGreat
set_option linter.unusedSimpArgs false
set_option linter.unusedVariables false
namespace Go.Proofs.YtmkamncbkkahjaaGreat
open Go Go.RowKit
set_option maxRecDepth 100000
set_option maxHeartbeats 20000000
instance i_spec_l1Most : ∀ (p0 : (List GData)) (p1 : (List Int)) (p2 : GType) (p3 : Int), Ct (m_spec_l1Most p0 p1 p2 p3) fun res => CallsD Tryz.prog 0o00211 [(.slice 2 (List.map rGData p0)), (.slice 1 (List.map rI p1)), (.agg (rGType p2)), (eI p3)] (fun d => d = (eI res)) :=
 au Tryz.func137 m_spec_l1Most.eq_1 (.o (.o (.o (.o (.o (.ls 16 (.f [10] [] [1, 9, 10, 11] [] (fun (k92 : Nat) (s88 : Int) => [(10, eI s88), (11, eI (k92 : Int))]) (fun k92 s88 => []) (fun k92 s88 => .o (.j 6 0 [1, 9, 10, 11] [] (fun (s101 : Int) => [(10, eI s101)]) (fun _ => []) .z (fun _ => .z))) (fun s96 => .z))))))))
end Go.Proofs.YtmkamncbkkahjaaGreat
set_option linter.unusedSimpArgs false
set_option linter.unusedVariables false
namespace Go.Proofs.YtmkamncbkkahjaaGreat
open Go Go.RowKit
set_option maxRecDepth 100000
set_option maxHeartbeats 20000000
instance i_spec_l2Draw : ∀ (n : Nat) (p0 : Gl17Rd) (p1 : (List GData)) (p2 : (List Int)) (p3 : GType) (p4 : Int), Ct (m_spec_l2Draw n p0 p1 p2 p3 p4) fun res => CallsH Tryz.prog 0o00105 [⟨2, [(rGl17Rd p0)], 0, 0x00ba⟩] [.ptr 2 0 0 0, (.slice 2 (List.map rGData p1)), (.slice 1 (List.map rI p2)), (.agg (rGType p3)), (eI p4)] (fun H d => H = [some ⟨2, [(rGl17Rd res.2)], 0, 0x00ba⟩] ∧ d = (.agg (rGValue res.1))) :=
 ar (au Tryz.func69 m_spec_l2Draw.eq_2 (.o (.o (.o (.o (.o (.o (.o (.i .z (.o (.ls 26 (.f [0, 1, 2, 4, 8, 10, 12] [0, 1, 9, 73] [0, 1, 2, 4, 8, 10, 11, 12, 13] [0, 1, 9, 73] (fun (k216 : Nat) (s212 : (List Int)) => [(12, .sl 1 73 (s212).length), (13, eI (k216 : Int))]) (fun k216 s212 => [(73, some ⟨1, (List.map rI s212), 0, 0x0003⟩)]) (fun k216 s212 => .o (.j 8 0 [0, 1, 2, 4, 8, 10, 11, 12, 13] [0, 1, 2, 3] (fun (s237 : (List Int)) => [(12, .sl 1 3 (s237).length)]) (fun s237 => [(3, some ⟨1, (List.map rI s237), 0, 0x0003⟩)]) (.g [0, 1, 2, 4, 8, 10, 11, 12, 13] [0, 1, 2, 3] [] [] (.o (.d [0, 1, 2, 3, 4, 5, 6, 7, 8] [1] [] .z))) (fun _ => .z))) (fun s220 => .o (.b fun (x257 : Int) => .o (.pC 68 2 3 0x001d (.ls 75 (.f [10, 15] [0, 2, 68, 140] [0, 1, 2, 4, 10, 15, 16, 17] [0, 2, 68, 140] (fun (k316 : Nat) (s312 : Gl17Rd × (List GValue)) => [(17, eI (k316 : Int))]) (fun k316 s312 => [(0, some ⟨2, [(rGl17Rd s312.1)], 0, 0x00ba⟩), (68, some ⟨3, [[(eI x257), (eI 0), (.sl 3 3 (s312.2).length)]], 0, 0x001d⟩), (140, some ⟨3, (List.map rGValue s312.2), 0, 0x001d⟩)]) (fun k316 s312 => .o (.g [0, 1, 2, 4, 10, 15, 16, 17] [0, 1, 2, 3] [] [(2, some ⟨3, [[(eI x257), (eI 0), (.sl 3 3 (s312.2).length)]], 0, 0x001d⟩)] (.o (.o (.d [0, 1, 2, 3, 4, 5, 6, 7, 8, 9, 10, 11, 12, 13, 14, 15] [2] [96] .z))))) (fun s320 => .pF 3 .z))))))))))))))))))
end Go.Proofs.YtmkamncbkkahjaaGreat
set_option linter.unusedSimpArgs false
set_option linter.unusedVariables false
namespace Go.Proofs.YtmkamncbkkahjaaGreat
open Go Go.RowKit
set_option maxRecDepth 100000
set_option maxHeartbeats 20000000
instance i_spec_l1Texts : Ct (m_spec_l1Texts) fun res => CallsD Tryz.prog 0o00401 [] (fun d => d = (.slice 1 (List.map rS res))) :=
 au Tryz.func257 m_spec_l1Texts.eq_1 .z
end Go.Proofs.YtmkamncbkkahjaaGreat
set_option linter.unusedSimpArgs false
set_option linter.unusedVariables false
namespace Go.Proofs.YtmkamncbkkahjaaGreat
open Go Go.RowKit
set_option maxRecDepth 100000
set_option maxHeartbeats 20000000
instance i_spec_l1World : ∀ (n : Nat) (p0 : Gl17Rd), Ct (m_spec_l1World n p0) fun res => CallsH Tryz.prog 0o00306 [⟨2, [(rGl17Rd p0)], 0, 0x00ba⟩] [.ptr 2 0 0 0] (fun H d => H = [some ⟨2, [(rGl17Rd res.2)], 0, 0x00ba⟩] ∧ d = (.slice 2 (List.map rGData res.1))) :=
 au Tryz.func198 m_spec_l1World.eq_1 .z
end Go.Proofs.YtmkamncbkkahjaaGreat
set_option linter.unusedSimpArgs false
set_option linter.unusedVariables false
namespace Go.Proofs.YtmkamncbkkahjaaGreat
open Go Go.RowKit
set_option maxRecDepth 100000
set_option maxHeartbeats 20000000
instance i_spec_l1Table : ∀ (n : Nat) (p0 : (List GData)), Ct (m_spec_l1Table n p0) fun res => CallsD Tryz.prog 0o00106 [(.slice 2 (List.map rGData p0))] (fun d => d = (.slice 1 (List.map rI res))) :=
 au Tryz.func70 m_spec_l1Table.eq_1 (.o (.o (.o (.w [3] [32] [0, 3, 4] [32] (fun (s7767 : (List Int) × Int) => [(3, .sl 1 32 (s7767.1).length), (4, eI s7767.2)]) (fun s7767 => [(32, some ⟨1, (List.map rI s7767.1), 0, 0x0003⟩)]) (fun s7767 => .i (.w [0, 3, 4] [0] [0, 3, 4, 5] [0] (fun (s9063 : (List Int) × Int) => [(3, .sl 1 0 (s9063.1).length), (5, eI s9063.2)]) (fun s9063 => [(0, some ⟨1, (List.map rI s9063.1), 0, 0x0003⟩)]) (fun s9063 => .i (.o (.ls 33 (.f [0, 3, 4, 5] [0] [0, 3, 4, 5, 6, 7, 8] [0, 73] (fun (k9286 : Nat) (s9282 : (List Int)) => [(3, .sl 1 0 (s9282).length), (8, eI (k9286 : Int))]) (fun k9286 s9282 => [(0, some ⟨1, (List.map rI s9282), 0, 0x0003⟩)]) (fun k9286 s9282 => .o (.j 13 0 [0, 3, 4, 5, 6, 7, 8] [0, 1] (fun (s9307 : (List Int)) => [(3, .sl 1 0 (s9307).length)]) (fun s9307 => [(0, some ⟨1, (List.map rI s9307), 0, 0x0003⟩)]) (.g [0, 3, 4, 5, 6, 7, 8] [0, 1] [] [] (.o (.d [0, 1, 2, 3, 4, 5, 6, 7, 8] [1] [] .z))) (fun _ => .z))) (fun s9290 => .z)))) .z) (fun s9071 => .z)) .z) (fun s7775 => .z)))))
end Go.Proofs.YtmkamncbkkahjaaGreat
set_option linter.unusedSimpArgs false
set_option linter.unusedVariables false
namespace Go.Proofs.YtmkamncbkkahjaaGreat
open Go Go.RowKit
set_option maxRecDepth 100000
set_option maxHeartbeats 20000000
instance i_spec_l17Rd_num : ∀ (p0 : Gl17Rd) (p1 : (List Int)), Ct (m_spec_l17Rd_num p0 p1) fun res => CallsH Tryz.prog 0o00214 [⟨2, [(rGl17Rd p0)], 0, 0x00ba⟩] [.ptr 2 0 0 0, (.slice 1 (List.map rI p1))] (fun H d => H = [some ⟨2, [(rGl17Rd res.2)], 0, 0x00ba⟩] ∧ d = (eI res.1)) :=
 au Tryz.func140 m_spec_l17Rd_num.eq_1 .z
end Go.Proofs.YtmkamncbkkahjaaGreat
set_option linter.unusedSimpArgs false
set_option linter.unusedVariables false
namespace Go.Proofs.YtmkamncbkkahjaaGreat
open Go Go.RowKit
set_option maxRecDepth 100000
set_option maxHeartbeats 20000000
instance i_spec_l2Typed : ∀ (n : Nat) (p0 : Gl17Rd), Ct (m_spec_l2Typed n p0) fun res => CallsH Tryz.prog 0o00200 [⟨2, [(rGl17Rd p0)], 0, 0x00ba⟩] [.ptr 2 0 0 0] (fun H d => H = [some ⟨2, [(rGl17Rd res.2.2.2)], 0, 0x00ba⟩] ∧ d = .tup [(.slice 2 (List.map rGData res.1)), (.agg (rGType res.2.1)), (.agg (rGValue res.2.2.1))]) :=
 au Tryz.func128 m_spec_l2Typed.eq_1 (.o (.o (.o (.o (.o (.o (.j 4 0 [0, 3, 4, 5, 6, 7] [0, 9, 17, 137] (fun (s7 : Int × Int) => []) (fun s7 => [(137, some ⟨2, [[(eI s7.1), (eI s7.2)]], 0, 0x0019⟩)]) .z (fun _ => .g [0, 3, 4, 5, 6, 7] [0, 1, 2, 3] [] [] (.o (.o (.d [0, 1, 2, 3, 4, 5, 6, 7, 8, 9, 10, 11, 12] [3] [] .z)))))))))))
end Go.Proofs.YtmkamncbkkahjaaGreat
set_option linter.unusedSimpArgs false
set_option linter.unusedVariables false
namespace Go.Proofs.YtmkamncbkkahjaaGreat
open Go Go.RowKit
set_option maxRecDepth 100000
set_option maxHeartbeats 20000000
theorem c_spec_l3Name : ∀ (n : Nat) (p0 : Gl17Rd) (p1 : GPattern) (p2 : Int) (res : GPattern × Int × Gl17Rd), m_spec_l3Name n p0 p1 p2 = some res → CallsH Tryz.prog 0o00402 [⟨2, [(rGl17Rd p0)], 0, 0x00ba⟩] [.ptr 2 0 0 0, (.agg (rGPattern p1)), (eI p2)] (fun H d => H = [some ⟨2, [(rGl17Rd res.2.2)], 0, 0x00ba⟩] ∧ d = .tup [(.agg (rGPattern res.1)), (eI res.2.1)]) := by
 intro n
 induction n with
 | zero => intro p0 p1 p2 res h; cases h
 | succ n ih =>
  intro p0 p1 p2 res h
  rw [m_spec_l3Name.eq_2] at h
  refine CH Tryz.func258 [.cell 6 41, .tmp 7] 1 fun β hβ => ?_
  refine sZ ?_
  apply sq
  apply sq
  rcases bb (ilt 5 p2) with p | p
  ·rw [if_pos p] at h
   refine rZ ?_ fun K hK => by simp [p]; exact hK
   refine cT ?_
   refine sZ ?_
   cases h
   apply TrD.ret
   refine exitHG (σ' := ⟨(updD (updD (fun _ => .any) 6 (.ptr 6 1 0 0)) 7 (eI p2)), hOfO [some ⟨2, [(rGl17Rd p0)], 0, 0x00ba⟩, some ⟨6, [(rGPattern p1)], 0, 0x0029⟩], 2, 82⟩) ?_ ?_
   ·exact gC [0, 9]
   simp [resD]
   exact eX 1
  rw [iN p] at h
  rcases bb (ieq p1.op 5) with v | v
  ·rw [if_pos v] at h
   refine rZ ?_ fun K hK => by simp [p, v]; exact hK
   refine cT ?_
   refine sZ ?_
   cases h
   apply TrD.ret
   refine exitHG (σ' := ⟨(updD (updD (fun _ => .any) 6 (.ptr 6 1 0 0)) 7 (eI p2)), hOfO [some ⟨2, [(rGl17Rd p0)], 0, 0x00ba⟩, some ⟨6, [(rGPattern p1)], 0, 0x0029⟩], 2, 82⟩) ?_ ?_
   ·exact gC [0, 9]
   simp [resD]
   exact eX 1
  rw [iN v] at h
  refine rZ ?_ fun K hK => by simp [p, v]; exact hK
  refine TrD.cond (b := ieq p1.op 3) (by simp) (fun q => ?_) (fun q => ?_)
  ·rw [if_pos q] at h
   refine sZ ?_ fun K hK => by simp [q]; exact hK
   cases h
   apply TrD.ret
   refine exitHG (σ' := ⟨(updD (updD (fun _ => .any) 6 (.ptr 6 1 0 0)) 7 (eI p2)), hOfO [some ⟨2, [(rGl17Rd p0)], 0, 0x00ba⟩, some ⟨6, [(rGPattern p1)], 0, 0x0029⟩], 2, 82⟩) ?_ ?_
   ·exact gC [0, 9]
   simp [resD]
   exact eX 1
  rw [iN q] at h
  apply TrD.skip
  obtain ⟨Z, f, h⟩ := bindE h
  obtain ⟨N, C⟩ : ∃ S : Gl17Rd → St, S = fun A => ⟨(updD (updD (updD (updD (fun _ => .any) 0 (.ptr 2 0 0 0)) 2 (eI p2)) 4 (.ptr 6 1 0 0)) 6 (.ptr 6 2 0 0)), hOfO [some ⟨2, [(rGl17Rd A)], 0, 0x00ba⟩, some ⟨6, [(rGPattern p1)], 0, 0x0029⟩, some ⟨6, [[(eI 0), (eI 0), (eI 0), (eI 0), (eI 0), .nil]], 0, 0x0029⟩], 3, 82⟩ := ⟨_, rfl⟩
  refine TrD.join N (fun z => Z = Ctl.brk z) ?_ (fun A hz => ?_)
  ·apply sq
   rcases bb (ieq p1.op 1) with r | r
   ·rw [if_pos r] at f
    obtain ⟨j, V, f⟩ := bindE f
    refine rk fun K hK => ?_
    simp [q, r]
    refine callK (views_same _ _) (.same _ _) [0] (c_spec_l17Rd_pick p0 2 _ V) (by decide) (.cons (locRen_eq (by simp) (by simp) (by simp)) .nil) (.cons (ren_ptr rfl) (.cons (ren_le (by simp) (by simp)) .nil)) (fun ae am R => ?_)
    obtain ⟨rfl, rfl⟩ := R
    refine ⟨by simp, [some ⟨2, [(rGl17Rd j.2)], 0, 0x00ba⟩], (eI j.1), (.cons (optRen_same (by simp)) .nil), (ren_free (by simp)), ?_⟩
    simp [setMany, newNames, r]
    apply hK
    refine TrD.cond (b := ieq j.1 0) (by simp) (fun g => ?_) (fun g => ?_)
    ·rw [if_pos g] at f
     refine sZ ?_ fun K hK => by simp [g]; exact hK
     cases f
     cases h
     apply TrD.ret
     refine exitHG (σ' := ⟨(updD (updD (fun _ => .any) 6 (.ptr 6 1 0 0)) 7 (eI (wadd .i64 p2 1))), hOfO [some ⟨2, [(rGl17Rd j.2)], 0, 0x00ba⟩, some ⟨6, [(rGPattern (GPattern.mk 2 0 0 0 p2 []))], 0, 0x0029⟩], 2, 82⟩) ?_ ?_
     ·exact gC [0, 9]
     simp [resD]
     exact eX 1
    rw [iN g] at f
    apply TrD.skip
    cases f
    refine ToAny.mk j.2 rfl ?_
    rw [C]
    exact gC [0, 1, 9]
   rw [iN r] at f
   refine rZ ?_ fun K hK => by simp [q, r]; exact hK
   refine cF ?_
   apply TrD.skip
   cases f
   refine ToAny.mk p0 rfl ?_
   rw [C]
   exact gC [0, 1, 9]
  subst hz
  try dsimp only at h
  rw [congrFun C A]
  refine sZ ?_
  refine sZ ?_
  refine sZ ?_
  apply sq
  refine sZ ?_
  obtain ⟨X, O, h⟩ := bindE h
  obtain ⟨I, E⟩ : ∃ S : (Gl17Rd × (List GPattern) × Int) → St, S = fun a => ⟨(updD (updD (updD (updD (fun _ => .any) 0 (.ptr 2 0 0 0)) 6 (.ptr 6 1 0 0)) 8 (.ptr 6 2 0 0)) 9 (eI a.2.2)), hOfO [some ⟨2, [(rGl17Rd a.1)], 0, 0x00ba⟩, some ⟨6, [[(eI 0), (eI 0), (eI 0), (eI 0), (eI 0), .nil]], 0, 0x0029⟩, some ⟨6, [[(eI p1.op), (eI p1.ctor), (eI p1.n), (eI p1.m), (eI p1.var), (.sl 6 3 (a.2.1).length)]], 0, 0x0029⟩, some ⟨6, (List.map rGPattern a.2.1), 0, 0x0029⟩], 4, 82⟩ := ⟨_, rfl⟩
  refine TrD.joinQ I (fun z => X = Ctl.brk z) (fun _ _ hg h => TrD.ghost hg h) ?_ (fun a hz => ?_)
  ·apply TrD.block
   obtain ⟨J, w⟩ : ∃ S : Nat → (Gl17Rd × (List GPattern) × Int) → St, S = fun y c => ⟨(updD (updD (updD (updD (updD (updD (fun _ => .any) 0 (.ptr 2 0 0 0)) 4 (.ptr 6 1 0 0)) 6 (.ptr 6 2 0 0)) 8 (.ptr 6 3 0 0)) 9 (eI c.2.2)) 10 (eI (y : Int))), hOfO [some ⟨2, [(rGl17Rd c.1)], 0, 0x00ba⟩, some ⟨6, [(rGPattern p1)], 0, 0x0029⟩, some ⟨6, [[(eI 0), (eI 0), (eI 0), (eI 0), (eI 0), .nil]], 0, 0x0029⟩, some ⟨6, [[(eI p1.op), (eI p1.ctor), (eI p1.n), (eI p1.m), (eI p1.var), (.sl 6 4 (c.2.1).length)]], 0, 0x0029⟩, some ⟨6, (List.map rGPattern c.2.1), 0, 0x0029⟩], 5, 82⟩ := ⟨_, rfl⟩
   refine TrD.limS (sz := 6) (rows := List.map rGPattern p1.kids) (seen_cell (d := .slice 6 (List.map rGPattern p1.kids)) 1 0 5 (by simp; rfl) rfl (by simp)) (fun hlim => ?_)
   rw [List.length_map] at hlim
   refine TrD.forL J O hlim ?_ (fun y ab c G ah ai W l aj t ag af => ?_) (fun c aa => ?_)
   ·rw [w]
    refine (Ghost.ownNilCell 11 5 6 0x0029 (by simp; rfl) rfl (by simp) (by simp)).trans ?_
    exact gC [0, 1, 2, 11, 67]
   ·rw [congrFun (congrFun w y) c]
    apply sq
    refine sZ ?_ fun K hK => by simp [W]; exact hK
    refine cT ?_
    apply TrD.skip
    apply sq
    apply TrD.block
    apply sq
    obtain ⟨o, T, t⟩ := bindE t
    refine rk fun K hK => ?_
    simp [idx_inb G, idx_row G]
    refine callK (views_same _ _) (.same _ _) [0] (ih c.1 ab c.2.2 _ T) (by decide) (.cons (locRen_eq (by simp) (by simp) (by simp)) .nil) (.cons (ren_ptr rfl) (.cons (ren_le (by simp) (by simp)) (.cons (ren_le (by simp) (by simp)) .nil))) (fun ac ak P => ?_)
    obtain ⟨rfl, rfl⟩ := P
    refine ⟨by simp, [some ⟨2, [(rGl17Rd o.2.2)], 0, 0x00ba⟩], (.tup [(.agg (rGPattern o.1)), (eI o.2.1)]), (.cons (optRen_same (by simp)) .nil), (ren_free (by simp)), ?_⟩
    simp [setMany, newNames]
    apply hK
    apply sq
    obtain ⟨D, x, t⟩ := bindE t
    have F := (app_some x).2
    try simp only [List.length_cons, List.length_nil, Nat.zero_add] at F
    refine rZ ?_ fun K hK => by simp [F]; exact hK
    refine rZ ?_
    refine rZ ?_
    cases t
    refine ToAny.mk (o.2.2, D, o.2.1) rfl ?_
    rw [w]
    exact Ghost.canonV 1 [0, 1, 2, 3, 189] _ _ hβ (keep_first (by decide)) (by decide) (vT_upd (v_of (d0 := (eI (wadd .i64 (y : Int) 1))) (by simp [l]) (v_free (by simp) (by simp [l]))) (vT_upd (v_of (d0 := (eI o.2.1)) (by simp [l]) (v_free (by simp) (by simp))) (vT_upd (v_of (d0 := (.ptr 6 3 0 0)) (by simp [l]) (v_ptr rfl)) (vT_upd (v_of (d0 := (.ptr 6 2 0 0)) (by simp [l]) (v_ptr rfl)) (vT_upd (v_of (d0 := (.ptr 6 1 0 0)) (by simp [l]) (v_ptr rfl)) (vT_upd (v_of (d0 := (.ptr 2 0 0 0)) (by simp [l]) (v_ptr rfl)) (vT_any _))))))) (.cons (lv (L := ⟨2, [(rGl17Rd o.2.2)], 0, 0x00ba⟩) (by simp) rfl rfl (by simp) (rv_free (by simp) (by simp))) (.cons (lv (L := ⟨6, [(rGPattern p1)], 0, 0x0029⟩) (by simp) rfl rfl (by simp) (rv_free (by simp) (by simp))) (.cons (lv (L := ⟨6, [[(eI 0), (eI 0), (eI 0), (eI 0), (eI 0), .nil]], 0, 0x0029⟩) (by simp) rfl rfl (by simp) (rv_cons (.cons (v_free (by simp) (by simp)) (.cons (v_free (by simp) (by simp)) (.cons (v_free (by simp) (by simp)) (.cons (v_free (by simp) (by simp)) (.cons (v_free (by simp) (by simp)) (.cons (v_free (by simp) (by simp)) .nil)))))) rv_nil)) (.cons (lv (L := ⟨6, [[(eI p1.op), (eI p1.ctor), (eI p1.n), (eI p1.m), (eI p1.var), (.sl 6 189 (D).length)]], 0, 0x0029⟩) (by simp [(app_some x).1]) rfl rfl (by simp) (rv_cons (.cons (v_free (by simp) (by simp)) (.cons (v_free (by simp) (by simp)) (.cons (v_free (by simp) (by simp)) (.cons (v_free (by simp) (by simp)) (.cons (v_free (by simp) (by simp)) (.cons (v_sl rfl) .nil)))))) rv_nil)) (.cons (lv (L := ⟨6, (List.map rGPattern D), 0, 0x0029⟩) (by simp [(app_some x).1]) rfl rfl (by simp) (rv_free (by simp [(app_some x).1]) (free_rows_of fr_GPattern _))) .nil)))))
   rw [congrFun (congrFun w _) c]
   apply sq
   refine sZ ?_ fun K hK => by simp [ilt_len p1.kids.length]; exact hK
   refine cF ?_
   refine TrD.exit ?_
   try simp only [↓reduceIte, Nat.reduceEqDiff, Nat.zero_ne_one, Nat.one_ne_zero, OfNat.ofNat_ne_zero, OfNat.zero_ne_ofNat, OfNat.one_ne_ofNat, OfNat.ofNat_ne_one]
   refine ToAny.mk c aa ?_
   rw [E]
   exact gC [0, 2, 3, 4]
  subst hz
  try dsimp only at h
  rw [congrFun E a]
  obtain ⟨Y, e, h⟩ := bindE h
  obtain ⟨M, B⟩ : ∃ S : Gl17Rd → St, S = fun s => ⟨(updD (updD (updD (fun _ => .any) 6 (.ptr 6 1 0 0)) 8 (.ptr 6 2 0 0)) 9 (eI a.2.2)), hOfO [some ⟨2, [(rGl17Rd s)], 0, 0x00ba⟩, some ⟨6, [[(eI 0), (eI 0), (eI 0), (eI 0), (eI 0), .nil]], 0, 0x0029⟩, some ⟨6, [[(eI p1.op), (eI p1.ctor), (eI p1.n), (eI p1.m), (eI p1.var), (.sl 6 3 (a.2.1).length)]], 0, 0x0029⟩, some ⟨6, (List.map rGPattern a.2.1), 0, 0x0029⟩], 4, 82⟩ := ⟨_, rfl⟩
  refine TrD.join M (fun z => Y = Ctl.brk z) ?_ (fun s hz => ?_)
  ·apply sq
   rcases bb (ile a.2.2 5) with u | u
   ·rw [if_pos u] at e
    obtain ⟨i, U, e⟩ := bindE e
    refine rk fun K hK => ?_
    simp [u]
    refine callK (views_same _ _) (.same _ _) [0] (c_spec_l17Rd_pick a.1 6 _ U) (by decide) (.cons (locRen_eq (by simp) (by simp) (by simp)) .nil) (.cons (ren_ptr rfl) (.cons (ren_le (by simp) (by simp)) .nil)) (fun ad al Q => ?_)
    obtain ⟨rfl, rfl⟩ := Q
    refine ⟨by simp, [some ⟨2, [(rGl17Rd i.2)], 0, 0x00ba⟩], (eI i.1), (.cons (optRen_same (by simp)) .nil), (ren_free (by simp)), ?_⟩
    simp [setMany, newNames]
    apply hK
    refine TrD.cond (b := ieq i.1 0) (by simp) (fun k => ?_) (fun k => ?_)
    ·rw [if_pos k] at e
     refine sZ ?_ fun K hK => by simp [k]; exact hK
     cases e
     cases h
     apply TrD.ret
     refine exitHG (σ' := ⟨(updD (updD (fun _ => .any) 6 (.ptr 6 1 0 0)) 7 (eI (wadd .i64 a.2.2 1))), hOfO [some ⟨2, [(rGl17Rd i.2)], 0, 0x00ba⟩, some ⟨6, [(rGPattern (GPattern.mk 6 0 0 0 a.2.2 [(GPattern.mk p1.op p1.ctor p1.n p1.m p1.var a.2.1)]))], 0, 0x0029⟩], 2, 82⟩) ?_ ?_
     ·refine (Ghost.raise 3 (by simp; rfl)).trans ?_
      refine (Ghost.raise 76 (by simp; rfl)).trans ?_
      exact Ghost.canonV 1 [0, 1] _ _ hβ (keep_first (by decide)) (by decide) (vT_upd (v_of (d0 := (eI (wadd .i64 a.2.2 1))) (by simp) (v_free (by simp) (by simp))) (vT_upd (v_of (d0 := (.ptr 6 1 0 0)) (by simp) (v_ptr rfl)) (vT_any _))) (.cons (lv (L := ⟨2, [(rGl17Rd i.2)], 0, 0x00ba⟩) (by simp) rfl rfl (by simp) (rv_free (by simp) (by simp))) (.cons (lv (L := ⟨6, [[(eI 6), (eI 0), (eI 0), (eI 0), (eI a.2.2), (.sl 6 76 ([(GPattern.mk p1.op p1.ctor p1.n p1.m p1.var a.2.1)]).length)]], 0, 0x0029⟩) (by simp) rfl rfl (by simp) (rv_consr (rGPattern_eq _) (.cons (v_free (by simp) (by simp)) (.cons (v_free (by simp) (by simp)) (.cons (v_free (by simp) (by simp)) (.cons (v_free (by simp) (by simp)) (.cons (v_free (by simp) (by simp)) (.cons (v_frz (L := ⟨6, ((List.map rGPattern []) ++ [[(eI p1.op), (eI p1.ctor), (eI p1.n), (eI p1.m), (eI p1.var), (.sl 6 3 (a.2.1).length)]]), ([(GPattern.mk p1.op p1.ctor p1.n p1.m p1.var a.2.1)]).length * 6, 0x0029⟩) (by simp) rfl (by simp) (by simp) (rv_consr (rGPattern_eq _) (.cons (v_free (by simp) (by simp)) (.cons (v_free (by simp) (by simp)) (.cons (v_free (by simp) (by simp)) (.cons (v_free (by simp) (by simp)) (.cons (v_free (by simp) (by simp)) (.cons (v_frz (by simp; rfl) rfl (by simp) (by simp) (rv_free (by simp) (by simp))) .nil)))))) rv_nil)) .nil)))))) rv_nil)) .nil))
     simp [resD]
     exact eX 1
    rw [iN k] at e
    apply TrD.skip
    cases e
    refine ToAny.mk i.2 rfl ?_
    rw [B]
    exact gC [0, 1, 2, 3]
   rw [iN u] at e
   refine rZ ?_ fun K hK => by simp [u]; exact hK
   refine cF ?_
   apply TrD.skip
   cases e
   refine ToAny.mk a.1 rfl ?_
   rw [B]
   exact gC [0, 1, 2, 3]
  subst hz
  try dsimp only at h
  rw [congrFun B s]
  refine sZ ?_
  cases h
  apply TrD.ret
  refine exitHG (σ' := ⟨(updD (updD (fun _ => .any) 6 (.ptr 6 1 0 0)) 7 (eI a.2.2)), hOfO [some ⟨2, [(rGl17Rd s)], 0, 0x00ba⟩, some ⟨6, [(rGPattern (GPattern.mk p1.op p1.ctor p1.n p1.m p1.var a.2.1))], 0, 0x0029⟩], 2, 82⟩) ?_ ?_
  ·refine (Ghost.raise 3 (by simp; rfl)).trans ?_
   exact Ghost.canonV 1 [0, 1] _ _ hβ (keep_first (by decide)) (by decide) (vT_upd (v_of (d0 := (eI a.2.2)) (by simp) (v_free (by simp) (by simp))) (vT_upd (v_of (d0 := (.ptr 6 1 0 0)) (by simp) (v_ptr rfl)) (vT_any _))) (.cons (lv (L := ⟨2, [(rGl17Rd s)], 0, 0x00ba⟩) (by simp) rfl rfl (by simp) (rv_free (by simp) (by simp))) (.cons (lv (L := ⟨6, [[(eI p1.op), (eI p1.ctor), (eI p1.n), (eI p1.m), (eI p1.var), (.sl 6 3 (a.2.1).length)]], 0, 0x0029⟩) (by simp) rfl rfl (by simp) (rv_consr (rGPattern_eq _) (.cons (v_free (by simp) (by simp)) (.cons (v_free (by simp) (by simp)) (.cons (v_free (by simp) (by simp)) (.cons (v_free (by simp) (by simp)) (.cons (v_free (by simp) (by simp)) (.cons (v_frz (by simp; rfl) rfl (by simp) (by simp) (rv_free (by simp) (by simp))) .nil)))))) rv_nil)) .nil))
  simp [resD]
  exact eX 1
instance i_spec_l3Name : ∀ (n : Nat) (p0 : Gl17Rd) (p1 : GPattern) (p2 : Int), Ct (m_spec_l3Name n p0 p1 p2) fun res => CallsH Tryz.prog 0o00402 [⟨2, [(rGl17Rd p0)], 0, 0x00ba⟩] [.ptr 2 0 0 0, (.agg (rGPattern p1)), (eI p2)] (fun H d => H = [some ⟨2, [(rGl17Rd res.2.2)], 0, 0x00ba⟩] ∧ d = .tup [(.agg (rGPattern res.1)), (eI res.2.1)]) := fun n p0 p1 p2 => ⟨c_spec_l3Name n p0 p1 p2⟩
end Go.Proofs.YtmkamncbkkahjaaGreat
set_option linter.unusedSimpArgs false
set_option linter.unusedVariables false
namespace Go.Proofs.YtmkamncbkkahjaaGreat
open Go Go.RowKit
set_option maxRecDepth 100000
set_option maxHeartbeats 20000000
instance i_spec_l3Draw : ∀ (n : Nat) (p0 : Gl17Rd) (p1 : (List GData)) (p2 : GType) (p3 : Int), Ct (m_spec_l3Draw n p0 p1 p2 p3) fun res => CallsH Tryz.prog 0o00403 [⟨2, [(rGl17Rd p0)], 0, 0x00ba⟩] [.ptr 2 0 0 0, (.slice 2 (List.map rGData p1)), (.agg (rGType p2)), (eI p3)] (fun H d => H = [some ⟨2, [(rGl17Rd res.2)], 0, 0x00ba⟩] ∧ d = (.agg (rGPattern res.1))) :=
 ar (au Tryz.func259 m_spec_l3Draw.eq_2 (.o (.o (.o (.o (.o (.o (.i .z (.o (.i .z (.o (.i (.g [0, 1, 3, 6, 8] [0, 1, 9] [] [] (.o (.o (.d [0, 1, 2, 3, 4, 6, 7, 8, 9, 10, 5, 11, 12, 13, 14] [1] [] (.pF 19 .z))))) (.i .z (.o (.i .z (.o (.b fun (x37 : Int) => .o (.pC 241 5 6 0x0029 (.ls 74 (.f [8, 11] [0, 9, 241, 313] [0, 1, 3, 8, 11, 12, 13] [0, 9, 241, 313] (fun (k96 : Nat) (s92 : Gl17Rd × (List GPattern)) => [(13, eI (k96 : Int))]) (fun k96 s92 => [(0, some ⟨2, [(rGl17Rd s92.1)], 0, 0x00ba⟩), (241, some ⟨6, [[(eI 4), (eI x37), (eI 0), (eI 0), (eI 0), (.sl 6 3 (s92.2).length)]], 0, 0x0029⟩), (313, some ⟨6, (List.map rGPattern s92.2), 0, 0x0029⟩)]) (fun k96 s92 => .o (.g [0, 1, 3, 8, 11, 12, 13] [0, 1, 2, 3] [] [(2, some ⟨6, [[(eI 4), (eI x37), (eI 0), (eI 0), (eI 0), (.sl 6 3 (s92.2).length)]], 0, 0x0029⟩)] (.o (.o (.d [0, 1, 2, 3, 4, 5, 6, 7, 8, 9, 10, 11, 12, 13, 14] [2] [94] .z))))) (fun s100 => .pF 3 .z)))))))))))))))))))))
end Go.Proofs.YtmkamncbkkahjaaGreat
set_option linter.unusedSimpArgs false
set_option linter.unusedVariables false
namespace Go.Proofs.YtmkamncbkkahjaaGreat
open Go Go.RowKit
set_option maxRecDepth 100000
set_option maxHeartbeats 20000000
instance i_spec_l3Some : ∀ (n : Nat) (p0 : Gl17Rd) (p1 : (List GData)) (p2 : GType), Ct (m_spec_l3Some n p0 p1 p2) fun res => CallsH Tryz.prog 0o00307 [⟨2, [(rGl17Rd p0)], 0, 0x00ba⟩] [.ptr 2 0 0 0, (.slice 2 (List.map rGData p1)), (.agg (rGType p2))] (fun H d => H = [some ⟨2, [(rGl17Rd res.2)], 0, 0x00ba⟩] ∧ d = (.agg (rGPattern res.1))) :=
 au Tryz.func199 m_spec_l3Some.eq_1 (.o (.o (.o (.o (.g [0, 1, 5, 6] [0, 1, 9] [] [] (.o (.o (.o (.dz [0, 1, 2, 3, 4, 5, 6, 7, 8, 9, 10, 11, 12, 13, 14] [1] [1048583] [] .z)))))))))
end Go.Proofs.YtmkamncbkkahjaaGreat
set_option linter.unusedSimpArgs false
set_option linter.unusedVariables false
namespace Go.Proofs.YtmkamncbkkahjaaGreat
open Go Go.RowKit
set_option maxRecDepth 100000
set_option maxHeartbeats 20000000
instance i_spec_l4Clause : ∀ (n : Nat) (p0 : Gl17Rd) (p1 : (List GData)) (p2 : GType), Ct (m_spec_l4Clause n p0 p1 p2) fun res => CallsH Tryz.prog 0o00201 [⟨2, [(rGl17Rd p0)], 0, 0x00ba⟩] [.ptr 2 0 0 0, (.slice 2 (List.map rGData p1)), (.agg (rGType p2))] (fun H d => H = [some ⟨2, [(rGl17Rd res.2)], 0, 0x00ba⟩] ∧ d = (.agg (rGClause res.1))) :=
 au Tryz.func129 m_spec_l4Clause.eq_1 (.o (.o (.o (.o (.b fun (r1 : (GPattern × Gl17Rd)) => .o (.ll 106 (.f [6, 7] [0, 9, 57] [0, 6, 7, 8, 9] [0, 9, 57, 106] (fun (k195 : Nat) (s191 : Gl17Rd × Int × Int × Int) => [(9, eI (k195 : Int))]) (fun k195 s191 => [(0, some ⟨2, [(rGl17Rd s191.1)], 0, 0x00ba⟩), (57, some ⟨9, [[(eI r1.1.op), (eI r1.1.ctor), (eI r1.1.n), (eI r1.1.m), (eI r1.1.var), (.slice 6 (List.map rGPattern r1.1.kids)), (eI s191.2.1), (eI s191.2.2.1), (eI s191.2.2.2)]], 0, 0x002d⟩)]) (fun k195 s191 => .o (.j 6 0 [0, 6, 7, 8, 9] [0, 1, 2, 3] (fun (s212 : Gl17Rd × Int × Int × Int) => []) (fun s212 => [(0, some ⟨2, [(rGl17Rd s212.1)], 0, 0x00ba⟩), (2, some ⟨9, [[(eI r1.1.op), (eI r1.1.ctor), (eI r1.1.n), (eI r1.1.m), (eI r1.1.var), (.slice 6 (List.map rGPattern r1.1.kids)), (eI s212.2.1), (eI s212.2.2.1), (eI s212.2.2.2)]], 0, 0x002d⟩)]) (.i (.o (.i (.g [0, 6, 7, 8, 9] [0, 1, 2, 3] [] [] (.o (.o (.d [0, 3, 4, 5, 6, 7, 8, 1, 2, 9, 10, 11, 12] [3] [] .z)))) .z)) .z) (fun _ => .z))) (fun s199 => .z))))))))
end Go.Proofs.YtmkamncbkkahjaaGreat
set_option linter.unusedSimpArgs false
set_option linter.unusedVariables false
namespace Go.Proofs.YtmkamncbkkahjaaGreat
open Go Go.RowKit
set_option maxRecDepth 100000
set_option maxHeartbeats 20000000
instance i_spec_l3Mutate : ∀ (p0 : Gl17Rd) (p1 : GPattern), Ct (m_spec_l3Mutate p0 p1) fun res => CallsH Tryz.prog 0o00244 [⟨2, [(rGl17Rd p0)], 0, 0x00ba⟩] [.ptr 2 0 0 0, (.agg (rGPattern p1))] (fun H d => H = [some ⟨2, [(rGl17Rd res.2)], 0, 0x00ba⟩] ∧ d = (.agg (rGPattern res.1))) :=
 au Tryz.func164 m_spec_l3Mutate.eq_1 (.o (.b fun (p1 : GPattern) => .o (.j 3 0 [4, 5] [0, 9, 25, 65] (fun (s17 : Gl17Rd × Int × Int × Int × Int × (List GPattern)) => []) (fun s17 => [(0, some ⟨2, [(rGl17Rd s17.1)], 0, 0x00ba⟩), (25, some ⟨6, [[(eI s17.2.1), (eI s17.2.2.1), (eI s17.2.2.2.1), (eI p1.m), (eI s17.2.2.2.2.1), (.sl 6 3 (s17.2.2.2.2.2).length)]], 0, 0x0029⟩), (65, some ⟨6, (List.map rGPattern s17.2.2.2.2.2), 0, 0x0029⟩)]) .z (fun _ => .pF 3 .z))))
end Go.Proofs.YtmkamncbkkahjaaGreat
set_option linter.unusedSimpArgs false
set_option linter.unusedVariables false
namespace Go.Proofs.YtmkamncbkkahjaaGreat
open Go Go.RowKit
set_option maxRecDepth 100000
set_option maxHeartbeats 20000000
instance i_spec_l4Mutate : ∀ (n : Nat) (p0 : Gl17Rd) (p1 : (List GClause)), Ct (m_spec_l4Mutate n p0 p1) fun res => CallsH Tryz.prog 0o00124 [⟨2, [(rGl17Rd p0)], 0, 0x00ba⟩] [.ptr 2 0 0 0, (.slice 9 (List.map rGClause p1))] (fun H d => H = [some ⟨2, [(rGl17Rd res.2)], 0, 0x00ba⟩, some ⟨9, List.map rGClause res.1, 0, 0x002d⟩] ∧ d = .sl 9 1 res.1.length) :=
 au Tryz.func84 m_spec_l4Mutate.eq_1 (.o (.o (.o (.o (.j 2 0 [5] [0, 25] (fun (s37 : Gl17Rd × (List GClause)) => [(5, .sl 9 25 (s37.2).length)]) (fun s37 => [(0, some ⟨2, [(rGl17Rd s37.1)], 0, 0x00ba⟩), (25, some ⟨9, (List.map rGClause s37.2), 0, 0x002d⟩)]) (.o (.i .z (.i .z (.i (.w [5] [0, 25] [5] [0, 25] (fun (s63 : (List GClause)) => [(5, .sl 9 25 (s63).length)]) (fun s63 => [(25, some ⟨9, (List.map rGClause s63), 0, 0x002d⟩)]) (fun s63 => .z) (fun s71 => .z)) .z)))) (fun _ => .z))))))
end Go.Proofs.YtmkamncbkkahjaaGreat
set_option linter.unusedSimpArgs false
set_option linter.unusedVariables false
namespace Go.Proofs.YtmkamncbkkahjaaGreat
open Go Go.RowKit
set_option maxRecDepth 100000
set_option maxHeartbeats 20000000
instance i_spec_DrawClauseValid : ∀ (n : Nat) (p0 : (List Int)), Ct (m_spec_DrawClauseValid n p0) fun res => CallsD Tryz.prog 0o00076 [(.slice 1 (List.map (rK .u8) p0))] (fun d => d = .tup [(.slice 2 (List.map rGData res.1)), (.agg (rGType res.2.1)), (.agg (rGClause res.2.2))]) :=
 au Tryz.func62 m_spec_DrawClauseValid.eq_1 (.o (.o (.o (.o (.g [3, 4, 5, 6, 7] [8, 16, 33, 96] [] [] (.o (.o (.o (.d [0, 1, 2, 3, 4, 5, 6, 7, 8, 9, 10, 11, 12, 13] [3, 21] [] .z)))))))))
theorem c_spec_DrawClauseValid (n : Nat) (p0 : (List Int)) : ∀ res, m_spec_DrawClauseValid n p0 = some res → CallsD Tryz.prog 0o00076 [(.slice 1 (List.map (rK .u8) p0))] (fun d => d = .tup [(.slice 2 (List.map rGData res.1)), (.agg (rGType res.2.1)), (.agg (rGClause res.2.2))]) := (i_spec_DrawClauseValid n p0).pf
end Go.Proofs.YtmkamncbkkahjaaGreat
set_option linter.unusedSimpArgs false
set_option linter.unusedVariables false
namespace Go.Proofs.YtmkamncbkkahjaaGreat
open Go Go.RowKit
set_option maxRecDepth 100000
set_option maxHeartbeats 20000000
theorem c_spec_DrawGuardPattern (n : Nat) (p0 : (List Int)) (res : (List GData) × GType × GClause) (h : m_spec_DrawGuardPattern n p0 = some res) : CallsD Tryz.prog 0o00023 [(.slice 1 (List.map (rK .u8) p0))] (fun d => d = .tup [(.slice 2 (List.map rGData res.1)), (.agg (rGType res.2.1)), (.agg (rGClause res.2.2))]) := by
 unfold m_spec_DrawGuardPattern at h
 refine CD Tryz.func19 [.tmp 2, .cell 3 25, .cell 4 45] fun β hβ => ?_
 refine sZ ?_
 apply sq
 obtain ⟨r1, hr1, h⟩ := bindE h
 refine rk fun K hK => ?_
 simp
 refine callK (views_same _ _) (.same _ _) [] (c_spec_l17Open p0 _ hr1) (by decide) .nil (.cons (ren_le (by simp) (by simp)) .nil) (fun G P w => ?_)
 obtain ⟨rfl, rfl⟩ := w
 refine ⟨by simp, [some ⟨2, [(rGl17Rd r1)], 0, 0x00ba⟩], (.ptr 2 33 0 0), (.cons (optRen_same (by simp)) .nil), (ren_ptr (by rfl)), ?_⟩
 simp [setMany, newNames]
 apply hK
 apply sq
 apply sq
 obtain ⟨f, y, h⟩ := bindE h
 refine rk fun K hK => ?_
 simp
 refine callK (views_same _ _) (.same _ _) [33] (c_spec_l17Rd_pick r1 2 _ y) (by decide) (.cons (locRen_eq (by simp) (by simp) (by simp)) .nil) (.cons (ren_ptr rfl) (.cons (ren_le (by simp) (by simp)) .nil)) (fun F O v => ?_)
 obtain ⟨rfl, rfl⟩ := v
 refine ⟨by simp, [some ⟨2, [(rGl17Rd f.2)], 0, 0x00ba⟩], (eI f.1), (.cons (optRen_same (by simp)) .nil), (ren_free (by simp)), ?_⟩
 simp [setMany, newNames]
 apply hK
 refine TrD.cond (b := ieq f.1 0) (by simp) (fun c => ?_) (fun c => ?_)
 ·rw [if_pos c] at h
  apply sq
  obtain ⟨e, z, h⟩ := bindE h
  refine rk fun K hK => ?_
  simp [c]
  refine cp (c_spec_ParseWorld n (ByteArray.mk #[76, 61, 78, 105, 108, 124, 67, 111, 110, 115, 40, 73, 44, 76, 41]) _ z) ?_
  simp
  apply hK
  refine sZ ?_
  apply sq
  obtain ⟨o, A, h⟩ := bindE h
  obtain ⟨D, g, h⟩ := bindE h
  have i := idx_inb g
  have j := idx_lt g
  try simp only [List.length_cons, List.length_nil, Nat.zero_add, Nat.reduceAdd] at i j
  have l := idx_rowget g rS
  try simp only [List.map_cons, List.map_nil, rS_eq] at l
  obtain ⟨p, B, h⟩ := bindE h
  refine rk fun K hK => ?_
  simp
  refine callK (views_same _ _) (.same _ _) [33] (c_spec_l17Rd_pick f.2 (lenZ [(ByteArray.mk #[67, 111, 110, 115, 40, 97, 44, 95, 41, 32, 97, 60, 51]), (ByteArray.mk #[67, 111, 110, 115, 40, 97, 64, 50, 45, 53, 44, 98, 41, 32, 97, 61, 52]), (ByteArray.mk #[67, 111, 110, 115, 40, 97, 64, 40, 49, 124, 55, 41, 44, 95, 41, 32, 97, 60, 53]), (ByteArray.mk #[67, 111, 110, 115, 40, 97, 44, 67, 111, 110, 115, 40, 98, 44, 95, 41, 41, 32, 98, 60, 48]), (ByteArray.mk (List.toArray (40 :: 67 :: 111 :: 110 :: 115 :: 40 :: 97 :: 44 :: 78 :: 105 :: 108 :: 41 :: 124 :: 67 :: 111 :: 110 :: 115 :: 40 :: 95 :: 44 :: 67 :: 111 :: 110 :: 115 :: 40 :: 97 :: 44 :: 95 :: 41 :: 41 :: 41 :: 32 :: 97 :: 61 :: 50 :: []))), (ByteArray.mk #[67, 111, 110, 115, 40, 97, 64, 51, 44, 95, 41, 32, 97, 61, 52])].length) _ A) (by decide) (.cons (locRen_eq (by simp) (by simp) (by simp)) .nil) (.cons (ren_ptr rfl) (.cons (ren_le (by simp) (by simp)) .nil)) (fun E N r => ?_)
  obtain ⟨rfl, rfl⟩ := r
  refine ⟨by simp, [some ⟨2, [(rGl17Rd o.2)], 0, 0x00ba⟩], (eI o.1), (.cons (optRen_same (by simp)) .nil), (ren_free (by simp)), ?_⟩
  simp [setMany, newNames, i, j, l]
  refine cp (c_spec_ParseClauses n e.1 (GType.mk 0 0) D _ B) ?_
  simp
  apply hK
  apply sq
  refine TrD.ghost (σ' := ⟨(updD (updD (updD (updD (fun _ => .any) 3 (.ptr 2 0 0 0)) 4 (.ptr 9 1 0 0)) 6 (.slice 2 (List.map rGData e.1))) 9 (.slice 9 (List.map rGClause p.1))), hOfO [some ⟨2, [[(eI 0), (eI 0)]], 0, 0x0019⟩, some ⟨9, [[(eI 0), (eI 0), (eI 0), (eI 0), (eI 0), .nil, (eI 0), (eI 0), (eI 0)]], 0, 0x002d⟩], 2, 44⟩) ?_ ?_
  ·exact gC [8, 16]
  obtain ⟨q, m, h⟩ := bindE h
  refine TrD.draw tysOk mixed [0, 1, 2, 3, 4, 5, 6, 7] [] [] (by rfl) rfl (fun K hK => ?_)
  simp [idx_inb m, idx_row m]
  apply hK
  cases h
  apply TrD.ret
  exact xD
 rw [iN c] at h
 apply TrD.skip
 apply sq
 obtain ⟨a, C, h⟩ := bindE h
 refine rk fun K hK => ?_
 simp [c]
 refine cp (c_spec_DrawClauseValid n p0 _ C) ?_
 simp
 apply hK
 cases h
 apply TrD.ret
 exact xD
instance i_spec_DrawGuardPattern : ∀ (n : Nat) (p0 : (List Int)), Ct (m_spec_DrawGuardPattern n p0) fun res => CallsD Tryz.prog 0o00023 [(.slice 1 (List.map (rK .u8) p0))] (fun d => d = .tup [(.slice 2 (List.map rGData res.1)), (.agg (rGType res.2.1)), (.agg (rGClause res.2.2))]) := fun n p0 => ⟨c_spec_DrawGuardPattern n p0⟩
end Go.Proofs.YtmkamncbkkahjaaGreat
set_option linter.unusedSimpArgs false
set_option linter.unusedVariables false
namespace Go.Proofs.YtmkamncbkkahjaaGreat
open Go Go.RowKit
set_option maxRecDepth 100000
set_option maxHeartbeats 20000000
instance i_spec_ClauseValid : ∀ (n : Nat) (p0 : (List GData)) (p1 : GType) (p2 : GClause), Ct (m_spec_ClauseValid n p0 p1 p2) fun res => CallsD Tryz.prog 0o00060 [(.slice 2 (List.map rGData p0)), (.agg (rGType p1)), (.agg (rGClause p2))] (fun d => d = (eB res)) :=
 au Tryz.func48 m_spec_ClauseValid.eq_1 .z
end Go.Proofs.YtmkamncbkkahjaaGreat
set_option linter.unusedSimpArgs false
set_option linter.unusedVariables false
namespace Go.Proofs.YtmkamncbkkahjaaGreat
open Go Go.RowKit
set_option maxRecDepth 100000
set_option maxHeartbeats 20000000
instance i_spec_l11Has : ∀ (n : Nat) (p0 : GPattern) (p1 : Int), Ct (m_spec_l11Has n p0 p1) fun res => CallsD Tryz.prog 0o00154 [(.agg (rGPattern p0)), (eI p1)] (fun d => d = (eB res)) :=
 ar (au Tryz.func108 m_spec_l11Has.eq_2 (.o (.o (.b fun (p0 : GPattern) => .o (.lc 0 5 6 rGPattern p0.kids (.f [1, 2] [0] [1, 2, 5] [0] (fun (k54 : Nat) (s50 : Unit) => [(5, eI (k54 : Int))]) (fun k54 s50 => []) (fun k54 s50 => .z) (fun s58 => .z)))))))
end Go.Proofs.YtmkamncbkkahjaaGreat
