import Derived.Test.YtmkamncbkkahjaaGreatJMir
import Derived.Test.YtmkamncbkkahjaaGreatJAuI
import Derived.Test.YtmkamncbkkahjaaGreatJAuto
import Derived.Test.YtmkamncbkkahjaaGreatJC2
import Derived.Test.YtmkamncbkkahjaaGreatJC1
set_option linter.unusedSimpArgs false
set_option linter.unusedVariables false
set_option linter.unusedSimpArgs false
set_option linter.unusedVariables false
namespace Go.Proofs.YtmkamncbkkahjaaGreat
open Go Go.RowKit
set_option maxRecDepth 100000
set_option maxHeartbeats 20000000
theorem c_slices_IndexFunc_VarType (p0 : (List GVarType)) (p1_f : FuncId) (p1_c : List D) (p1_x : ∀ d ∈ p1_c, Free d) (p1 : (GVarType → Option Bool)) (p1_h : ∀ a0 r, p1 a0 = some r → CallsD Tryz.prog p1_f ([(.agg (rGVarType a0))] ++ p1_c) (fun d => d = (eB r))) (res : Int) (h : m_slices_IndexFunc_VarType p0 p1 = some res) : CallsD Tryz.prog 0o00460 [(.slice 3 (List.map rGVarType p0)), .clos p1_f p1_c] (fun d => d = (eI res)) := by
 unfold m_slices_IndexFunc_VarType at h
 have p1_y : Free (.clos p1_f p1_c) := free_clos p1_x
 have p1_z := eq_true p1_x
 refine CD Tryz.func304 [.tmp 4] fun β hβ => ?_
 refine sZ ?_
 apply sq
 refine sZ ?_
 obtain ⟨v, p, h⟩ := bindE h
 obtain ⟨n, j⟩ : ∃ S : Unit → St, S = fun m => ⟨(fun _ => .any), hOfO [], 0, 19⟩ := ⟨_, rfl⟩
 refine TrD.joinQ n (fun z => v = Ctl.brk z) (fun _ _ hg h => TrD.ghost hg h) ?_ (fun m hz => ?_)
 ·apply TrD.block
  obtain ⟨o, i⟩ : ∃ S : Nat → Unit → St, S = fun c g => ⟨(updD (updD (updD (updD (fun _ => .any) 0 (.slice 3 (List.map rGVarType p0))) 1 (.clos p1_f p1_c)) 7 (eI (lenZ p0.length))) 8 (eI (c : Int))), hOfO [], 0, 19⟩ := ⟨_, rfl⟩
  refine TrD.limS (sz := 3) (rows := List.map rGVarType p0) (seen_slot (d := .slice 3 (List.map rGVarType p0)) 0 (by simp)) (fun hlim => ?_)
  rw [List.length_map] at hlim
  refine TrD.forL o p hlim ?_ (fun c A g l C E u f F a t B => ?_) (fun g y => ?_)
  ·rw [i]
   exact gc [] hβ (((va.f.f (by simp) (by simp [p1_y])).f).f) ln
  ·rw [congrFun (congrFun i c) g]
   refine sZ ?_ fun K hK => by simp [u]; exact hK
   apply sq
   refine cT ?_
   apply TrD.skip
   apply sq
   apply TrD.block
   refine sZ ?_
   apply sq
   obtain ⟨w, s, a⟩ := bindE a
   refine rk fun K hK => ?_
   simp [idx_inb l, idx_row l]
   refine cp (p1_h A _ s) ?_ (by simp) (by simp [p1_z])
   simp
   apply hK
   refine TrD.cond (b := w) (by simp) (fun e => ?_) (fun e => ?_)
   ·rw [if_pos e] at a
    refine sZ ?_ fun K hK => by simp [e]; exact hK
    cases a
    obtain rfl := t _ rfl
    cases h
    apply TrD.ret
    exact xD
   rw [iN e] at a
   apply TrD.skip
   refine rZ ?_ fun K hK => by simp [e]; exact hK
   cases a
   refine ToAny.mk () rfl ?_
   rw [i]
   exact gc [] hβ ((((va.f (by simp [f])).f (by simp [f]) (by simp [p1_y])).f (by simp [f])).f (by simp [f])) ln
  rw [congrFun (congrFun i _) g]
  refine sZ ?_ fun K hK => by simp [ilt_len p0.length]; exact hK
  apply sq
  refine cF ?_
  refine TrD.exit ?_
  try simp only [↓reduceIte, Nat.reduceEqDiff, Nat.zero_ne_one, Nat.one_ne_zero, OfNat.ofNat_ne_zero, OfNat.zero_ne_ofNat, OfNat.one_ne_ofNat, OfNat.ofNat_ne_one]
  refine ToAny.mk g y ?_
  rw [j]
  exact gC []
 subst hz
 try dsimp only at h
 rw [congrFun j m]
 refine sZ ?_
 cases h
 apply TrD.ret
 exact xD
instance i_slices_IndexFunc_VarType (p0 : (List GVarType)) (p1 : (GVarType → Option Bool)) {p1_f : FuncId} {p1_c : List D} [p1_i : CF1 (fun a0 => (.agg (rGVarType a0))) (fun r => (eB r)) p1 p1_f p1_c] : Ct (m_slices_IndexFunc_VarType p0 p1) fun res => CallsD Tryz.prog 0o00460 [(.slice 3 (List.map rGVarType p0)), .clos p1_f p1_c] (fun d => d = (eI res)) := ⟨c_slices_IndexFunc_VarType p0 p1_f p1_c p1_i.fr p1 p1_i.h⟩
end Go.Proofs.YtmkamncbkkahjaaGreat
set_option linter.unusedSimpArgs false
set_option linter.unusedVariables false
namespace Go.Proofs.YtmkamncbkkahjaaGreat
open Go Go.RowKit
set_option maxRecDepth 100000
set_option maxHeartbeats 20000000
theorem c_slices_ContainsFunc_VarType (p0 : (List GVarType)) (p1_f : FuncId) (p1_c : List D) (p1_x : ∀ d ∈ p1_c, Free d) (p1 : (GVarType → Option Bool)) (p1_h : ∀ a0 r, p1 a0 = some r → CallsD Tryz.prog p1_f ([(.agg (rGVarType a0))] ++ p1_c) (fun d => d = (eB r))) (res : Bool) (h : m_slices_ContainsFunc_VarType p0 p1 = some res) : CallsD Tryz.prog 0o00447 [(.slice 3 (List.map rGVarType p0)), .clos p1_f p1_c] (fun d => d = (eB res)) := by
 unfold m_slices_ContainsFunc_VarType at h
 have p1_y : Free (.clos p1_f p1_c) := free_clos p1_x
 have p1_z := eq_true p1_x
 refine CD Tryz.func295 [.tmp 4] fun β hβ => ?_
 refine sZ ?_
 apply sq
 obtain ⟨r1, hr1, h⟩ := bindE h
 refine rk fun K hK => ?_
 simp
 refine cp (c_slices_IndexFunc_VarType p0 p1_f p1_c p1_x p1 p1_h _ hr1) ?_ (by simp) (by simp [p1_y])
 simp
 apply hK
 cases h
 apply TrD.ret
 exact xD
instance i_slices_ContainsFunc_VarType (p0 : (List GVarType)) (p1 : (GVarType → Option Bool)) {p1_f : FuncId} {p1_c : List D} [p1_i : CF1 (fun a0 => (.agg (rGVarType a0))) (fun r => (eB r)) p1 p1_f p1_c] : Ct (m_slices_ContainsFunc_VarType p0 p1) fun res => CallsD Tryz.prog 0o00447 [(.slice 3 (List.map rGVarType p0)), .clos p1_f p1_c] (fun d => d = (eB res)) := ⟨c_slices_ContainsFunc_VarType p0 p1_f p1_c p1_i.fr p1 p1_i.h⟩
end Go.Proofs.YtmkamncbkkahjaaGreat
set_option linter.unusedSimpArgs false
set_option linter.unusedVariables false
namespace Go.Proofs.YtmkamncbkkahjaaGreat
open Go Go.RowKit
set_option maxRecDepth 100000
set_option maxHeartbeats 20000000
instance i_impl_sameVars : ∀ (p0 : (List GVarType)) (p1 : (List GVarType)), Ct (m_impl_sameVars p0 p1) fun res => CallsD Tryz.prog 0o00371 [(.slice 3 (List.map rGVarType p0)), (.slice 3 (List.map rGVarType p1))] (fun d => d = (eB res)) :=
 au Tryz.func249 m_impl_sameVars.eq_1 .z
end Go.Proofs.YtmkamncbkkahjaaGreat
set_option linter.unusedSimpArgs false
set_option linter.unusedVariables false
namespace Go.Proofs.YtmkamncbkkahjaaGreat
open Go Go.RowKit
set_option maxRecDepth 100000
set_option maxHeartbeats 20000000
instance i_impl_patternScan : ∀ (n : Nat) (p0 : (List GData)) (p1 : GType) (p2 : GPattern) (p3 : Int) (p4 : Int), Ct (m_impl_patternScan n p0 p1 p2 p3 p4) fun res => CallsH Tryz.prog 0o00272 [⟨1, [[(eI p4)]], 0, 0x0003⟩] [(.slice 2 (List.map rGData p0)), (.agg (rGType p1)), (.agg (rGPattern p2)), (eI p3), .ptr 1 0 0 0] (fun H d => H = [some ⟨1, [[(eI res.2.2)]], 0, 0x0003⟩] ∧ d = .tup [(.slice 3 (List.map rGVarType res.1)), (eB res.2.1)]) :=
 ar (au Tryz.func186 m_impl_patternScan.eq_2 (.o (.o (.o (.o (.o (.o (.o (.i .z (.i .z (.o (.i .z (.j 8 0 [0, 3, 4, 7, 12, 14] [0, 9, 9000] (fun (s23 : (List GVarType)) => [(14, .sl 3 9000 (s23).length)]) (fun s23 => [(9000, some ⟨3, (List.map rGVarType s23), 0, 0x0111⟩)]) (.i .z (.i .z (.pN 14 3 0x0111 .z))) (fun s23 => .ls 60 (.f [14] [0, 2] [0, 3, 4, 7, 12, 14, 60, 61, 62] [0, 1, 2] (fun (k247 : Nat) (s243 : Int × (List GVarType)) => [(14, .sl 3 2 (s243.2).length), (62, eI (k247 : Int))]) (fun k247 s243 => [(0, some ⟨1, [[(eI s243.1)]], 0, 0x0003⟩), (2, some ⟨3, (List.map rGVarType s243.2), 0, 0x0111⟩)]) (fun k247 s243 => .o (.j 12 0 [0, 3, 4, 7, 12, 14, 60, 61, 62] [0, 1, 2] (fun (s268 : Int × (List GVarType)) => [(14, .sl 3 2 (s268.2).length)]) (fun s268 => [(0, some ⟨1, [[(eI s268.1)]], 0, 0x0003⟩), (2, some ⟨3, (List.map rGVarType s268.2), 0, 0x0111⟩)]) (.g [0, 3, 4, 7, 12, 14, 15, 16, 60, 61, 62] [0, 1, 2, 35] [] [] (.o (.o (.d [0, 1, 2, 3, 4, 5, 6, 7, 8, 9, 10, 11, 12, 13, 14] [3] [] .z)))) (fun _ => .z))) (fun s251 => .ll 1 (.f [14] [0, 1] [14, 19, 99, 100, 101] [0, 1, 2] (fun (k372 : Nat) (s368 : (List Bool)) => [(101, eI (k372 : Int))]) (fun k372 s368 => [(2, some ⟨6, [(List.map cB s368)], 0, 0x0145⟩)]) (fun k372 s368 => .z) (fun s376 => .pF 1 .z))))))))))))))))))
end Go.Proofs.YtmkamncbkkahjaaGreat
set_option linter.unusedSimpArgs false
set_option linter.unusedVariables false
namespace Go.Proofs.YtmkamncbkkahjaaGreat
open Go Go.RowKit
set_option maxRecDepth 100000
set_option maxHeartbeats 20000000
instance i_impl_patternVars : ∀ (n : Nat) (p0 : (List GData)) (p1 : GType) (p2 : GPattern), Ct (m_impl_patternVars n p0 p1 p2) fun res => CallsD Tryz.prog 0o00170 [(.slice 2 (List.map rGData p0)), (.agg (rGType p1)), (.agg (rGPattern p2))] (fun d => d = .tup [(.slice 3 (List.map rGVarType res.1)), (eB res.2)]) :=
 au Tryz.func120 m_impl_patternVars.eq_1 .z
end Go.Proofs.YtmkamncbkkahjaaGreat
set_option linter.unusedSimpArgs false
set_option linter.unusedVariables false
namespace Go.Proofs.YtmkamncbkkahjaaGreat
open Go Go.RowKit
set_option maxRecDepth 100000
set_option maxHeartbeats 20000000
instance i_impl_guardOk : ∀ (p0 : GGuard) (p1 : (List GVarType)), Ct (m_impl_guardOk p0 p1) fun res => CallsD Tryz.prog 0o00206 [(.agg (rGGuard p0)), (.slice 3 (List.map rGVarType p1))] (fun d => d = (eB res)) :=
 au Tryz.func134 m_impl_guardOk.eq_1 .z
end Go.Proofs.YtmkamncbkkahjaaGreat
set_option linter.unusedSimpArgs false
set_option linter.unusedVariables false
namespace Go.Proofs.YtmkamncbkkahjaaGreat
open Go Go.RowKit
set_option maxRecDepth 100000
set_option maxHeartbeats 20000000
instance i_impl_clauseOk : ∀ (n : Nat) (p0 : (List GData)) (p1 : GType) (p2 : GClause), Ct (m_impl_clauseOk n p0 p1 p2) fun res => CallsD Tryz.prog 0o00103 [(.slice 2 (List.map rGData p0)), (.agg (rGType p1)), (.agg (rGClause p2))] (fun d => d = (eB res)) :=
 au Tryz.func67 m_impl_clauseOk.eq_1 .z
end Go.Proofs.YtmkamncbkkahjaaGreat
set_option linter.unusedSimpArgs false
set_option linter.unusedVariables false
namespace Go.Proofs.YtmkamncbkkahjaaGreat
open Go Go.RowKit
set_option maxRecDepth 100000
set_option maxHeartbeats 20000000
instance i_impl_ClausesValid_1 : ∀ (n : Nat) (p0 : GClause) (q0 : (List GData)) (q1 : GType), Ct (m_impl_ClausesValid_1 n p0 q0 q1) fun res => CallsD Tryz.prog 0o00150 [(.agg (rGClause p0)), .cptr [(.slice 2 (List.map rGData q0))], .cptr (rGType q1)] (fun d => d = (eB res)) :=
 au Tryz.func104 m_impl_ClausesValid_1.eq_1 .z
end Go.Proofs.YtmkamncbkkahjaaGreat
set_option linter.unusedSimpArgs false
set_option linter.unusedVariables false
namespace Go.Proofs.YtmkamncbkkahjaaGreat
open Go Go.RowKit
set_option maxRecDepth 100000
set_option maxHeartbeats 20000000
instance i_impl_NameValid : ∀ (n : Nat) (p0 : ByteArray), Ct (m_impl_NameValid n p0) fun res => CallsD Tryz.prog 0o00365 [(eS p0)] (fun d => d = (eB res)) :=
 au Tryz.func245 m_impl_NameValid.eq_1 (.o (.o (.o (.i .z (.o (.i .z (.i .z (.w [] [] [0, 3] [] (fun (s132 : Int) => [(3, eI s132)]) (fun s132 => []) (fun s132 => .z) (fun s140 => .z)))))))))
end Go.Proofs.YtmkamncbkkahjaaGreat
set_option linter.unusedSimpArgs false
set_option linter.unusedVariables false
namespace Go.Proofs.YtmkamncbkkahjaaGreat
open Go Go.RowKit
set_option maxRecDepth 100000
set_option maxHeartbeats 20000000
theorem c_slices_IndexFunc_Type (p0 : (List GType)) (p1_f : FuncId) (p1_c : List D) (p1_x : ∀ d ∈ p1_c, Free d) (p1 : (GType → Option Bool)) (p1_h : ∀ a0 r, p1 a0 = some r → CallsD Tryz.prog p1_f ([(.agg (rGType a0))] ++ p1_c) (fun d => d = (eB r))) (res : Int) (h : m_slices_IndexFunc_Type p0 p1 = some res) : CallsD Tryz.prog 0o00271 [(.slice 2 (List.map rGType p0)), .clos p1_f p1_c] (fun d => d = (eI res)) := by
 unfold m_slices_IndexFunc_Type at h
 have p1_y : Free (.clos p1_f p1_c) := free_clos p1_x
 have p1_z := eq_true p1_x
 refine CD Tryz.func185 [.tmp 4] fun β hβ => ?_
 refine sZ ?_
 apply sq
 refine sZ ?_
 obtain ⟨v, p, h⟩ := bindE h
 obtain ⟨n, j⟩ : ∃ S : Unit → St, S = fun m => ⟨(fun _ => .any), hOfO [], 0, 19⟩ := ⟨_, rfl⟩
 refine TrD.joinQ n (fun z => v = Ctl.brk z) (fun _ _ hg h => TrD.ghost hg h) ?_ (fun m hz => ?_)
 ·apply TrD.block
  obtain ⟨o, i⟩ : ∃ S : Nat → Unit → St, S = fun c g => ⟨(updD (updD (updD (updD (fun _ => .any) 0 (.slice 2 (List.map rGType p0))) 1 (.clos p1_f p1_c)) 7 (eI (lenZ p0.length))) 8 (eI (c : Int))), hOfO [], 0, 19⟩ := ⟨_, rfl⟩
  refine TrD.limS (sz := 2) (rows := List.map rGType p0) (seen_slot (d := .slice 2 (List.map rGType p0)) 0 (by simp)) (fun hlim => ?_)
  rw [List.length_map] at hlim
  refine TrD.forL o p hlim ?_ (fun c A g l C E u f F a t B => ?_) (fun g y => ?_)
  ·rw [i]
   exact gc [] hβ (((va.f.f (by simp) (by simp [p1_y])).f).f) ln
  ·rw [congrFun (congrFun i c) g]
   refine sZ ?_ fun K hK => by simp [u]; exact hK
   apply sq
   refine cT ?_
   apply TrD.skip
   apply sq
   apply TrD.block
   refine sZ ?_
   apply sq
   obtain ⟨w, s, a⟩ := bindE a
   refine rk fun K hK => ?_
   simp [idx_inb l, idx_row l]
   refine cp (p1_h A _ s) ?_ (by simp) (by simp [p1_z])
   simp
   apply hK
   refine TrD.cond (b := w) (by simp) (fun e => ?_) (fun e => ?_)
   ·rw [if_pos e] at a
    refine sZ ?_ fun K hK => by simp [e]; exact hK
    cases a
    obtain rfl := t _ rfl
    cases h
    apply TrD.ret
    exact xD
   rw [iN e] at a
   apply TrD.skip
   refine rZ ?_ fun K hK => by simp [e]; exact hK
   cases a
   refine ToAny.mk () rfl ?_
   rw [i]
   exact gc [] hβ ((((va.f (by simp [f])).f (by simp [f]) (by simp [p1_y])).f (by simp [f])).f (by simp [f])) ln
  rw [congrFun (congrFun i _) g]
  refine sZ ?_ fun K hK => by simp [ilt_len p0.length]; exact hK
  apply sq
  refine cF ?_
  refine TrD.exit ?_
  try simp only [↓reduceIte, Nat.reduceEqDiff, Nat.zero_ne_one, Nat.one_ne_zero, OfNat.ofNat_ne_zero, OfNat.zero_ne_ofNat, OfNat.one_ne_ofNat, OfNat.ofNat_ne_one]
  refine ToAny.mk g y ?_
  rw [j]
  exact gC []
 subst hz
 try dsimp only at h
 rw [congrFun j m]
 refine sZ ?_
 cases h
 apply TrD.ret
 exact xD
instance i_slices_IndexFunc_Type (p0 : (List GType)) (p1 : (GType → Option Bool)) {p1_f : FuncId} {p1_c : List D} [p1_i : CF1 (fun a0 => (.agg (rGType a0))) (fun r => (eB r)) p1 p1_f p1_c] : Ct (m_slices_IndexFunc_Type p0 p1) fun res => CallsD Tryz.prog 0o00271 [(.slice 2 (List.map rGType p0)), .clos p1_f p1_c] (fun d => d = (eI res)) := ⟨c_slices_IndexFunc_Type p0 p1_f p1_c p1_i.fr p1 p1_i.h⟩
end Go.Proofs.YtmkamncbkkahjaaGreat
set_option linter.unusedSimpArgs false
set_option linter.unusedVariables false
namespace Go.Proofs.YtmkamncbkkahjaaGreat
open Go Go.RowKit
set_option maxRecDepth 100000
set_option maxHeartbeats 20000000
theorem c_slices_ContainsFunc_Type (p0 : (List GType)) (p1_f : FuncId) (p1_c : List D) (p1_x : ∀ d ∈ p1_c, Free d) (p1 : (GType → Option Bool)) (p1_h : ∀ a0 r, p1 a0 = some r → CallsD Tryz.prog p1_f ([(.agg (rGType a0))] ++ p1_c) (fun d => d = (eB r))) (res : Bool) (h : m_slices_ContainsFunc_Type p0 p1 = some res) : CallsD Tryz.prog 0o00165 [(.slice 2 (List.map rGType p0)), .clos p1_f p1_c] (fun d => d = (eB res)) := by
 unfold m_slices_ContainsFunc_Type at h
 have p1_y : Free (.clos p1_f p1_c) := free_clos p1_x
 have p1_z := eq_true p1_x
 refine CD Tryz.func117 [.tmp 4] fun β hβ => ?_
 refine sZ ?_
 apply sq
 obtain ⟨r1, hr1, h⟩ := bindE h
 refine rk fun K hK => ?_
 simp
 refine cp (c_slices_IndexFunc_Type p0 p1_f p1_c p1_x p1 p1_h _ hr1) ?_ (by simp) (by simp [p1_y])
 simp
 apply hK
 cases h
 apply TrD.ret
 exact xD
instance i_slices_ContainsFunc_Type (p0 : (List GType)) (p1 : (GType → Option Bool)) {p1_f : FuncId} {p1_c : List D} [p1_i : CF1 (fun a0 => (.agg (rGType a0))) (fun r => (eB r)) p1 p1_f p1_c] : Ct (m_slices_ContainsFunc_Type p0 p1) fun res => CallsD Tryz.prog 0o00165 [(.slice 2 (List.map rGType p0)), .clos p1_f p1_c] (fun d => d = (eB res)) := ⟨c_slices_ContainsFunc_Type p0 p1_f p1_c p1_i.fr p1 p1_i.h⟩
end Go.Proofs.YtmkamncbkkahjaaGreat
set_option linter.unusedSimpArgs false
set_option linter.unusedVariables false
namespace Go.Proofs.YtmkamncbkkahjaaGreat
open Go Go.RowKit
set_option maxRecDepth 100000
set_option maxHeartbeats 20000000
instance i_impl_argOk : ∀ (p0 : (List GData)) (p1 : GType), Ct (m_impl_argOk p0 p1) fun res => CallsD Tryz.prog 0o00367 [(.slice 2 (List.map rGData p0)), (.agg (rGType p1))] (fun d => d = (eB res)) :=
 au Tryz.func247 m_impl_argOk.eq_1 .z
end Go.Proofs.YtmkamncbkkahjaaGreat
set_option linter.unusedSimpArgs false
set_option linter.unusedVariables false
namespace Go.Proofs.YtmkamncbkkahjaaGreat
open Go Go.RowKit
set_option maxRecDepth 100000
set_option maxHeartbeats 20000000
instance i_impl_ctorOk_1 : ∀ (p0 : GType) (q0 : (List GData)), Ct (m_impl_ctorOk_1 p0 q0) fun res => CallsD Tryz.prog 0o00366 [(.agg (rGType p0)), .cptr [(.slice 2 (List.map rGData q0))]] (fun d => d = (eB res)) :=
 au Tryz.func246 m_impl_ctorOk_1.eq_1 .z
end Go.Proofs.YtmkamncbkkahjaaGreat
set_option linter.unusedSimpArgs false
set_option linter.unusedVariables false
namespace Go.Proofs.YtmkamncbkkahjaaGreat
open Go Go.RowKit
set_option maxRecDepth 100000
set_option maxHeartbeats 20000000
instance i_impl_ctorOk : ∀ (n : Nat) (p0 : (List GData)) (p1 : GCtor), Ct (m_impl_ctorOk n p0 p1) fun res => CallsD Tryz.prog 0o00270 [(.slice 2 (List.map rGData p0)), (.agg (rGCtor p1))] (fun d => d = (eB res)) :=
 au Tryz.func184 m_impl_ctorOk.eq_1 .z
end Go.Proofs.YtmkamncbkkahjaaGreat
set_option linter.unusedSimpArgs false
set_option linter.unusedVariables false
namespace Go.Proofs.YtmkamncbkkahjaaGreat
open Go Go.RowKit
set_option maxRecDepth 100000
set_option maxHeartbeats 20000000
instance i_impl_WorldValid : ∀ (n : Nat) (p0 : (List GData)), Ct (m_impl_WorldValid n p0) fun res => CallsD Tryz.prog 0o00160 [(.slice 2 (List.map rGData p0))] (fun d => d = (eB res)) :=
 au Tryz.func112 m_impl_WorldValid.eq_1 (.o (.o (.i .z (.ls 0 (.f [] [] [0, 3, 4, 14, 15, 16] [32, 48] (fun (k1660 : Nat) (s1656 : (List (ByteArray × Bool)) × (List (ByteArray × Bool))) => [(16, eI (k1660 : Int))]) (fun k1660 s1656 => [(32, some ⟨0, List.map rSB s1656.1, 0, 0x00fd⟩), (48, some ⟨0, List.map rSB s1656.2, 0, 0x00fd⟩)]) (fun k1660 s1656 => .o (.i .z (.o (.i .z (.i .z (.i .z (.i .z (.o (.i .z (.ls 49 (.f [0, 3, 4, 14, 15, 16] [0, 1] [0, 3, 4, 14, 15, 16, 58, 59, 60] [0, 1] (fun (k1952 : Nat) (s1948 : (List (ByteArray × Bool))) => [(60, eI (k1952 : Int))]) (fun k1952 s1948 => [(0, some ⟨0, List.map rSB s1948, 0, 0x00fd⟩)]) (fun k1952 s1948 => .z) (fun s1956 => .z)))))))))))) (fun s1664 => .z))))))
end Go.Proofs.YtmkamncbkkahjaaGreat
set_option linter.unusedSimpArgs false
set_option linter.unusedVariables false
namespace Go.Proofs.YtmkamncbkkahjaaGreat
open Go Go.RowKit
set_option maxRecDepth 100000
set_option maxHeartbeats 20000000
instance i_impl_typeOk : ∀ (p0 : (List GData)) (p1 : GType), Ct (m_impl_typeOk p0 p1) fun res => CallsD Tryz.prog 0o00161 [(.slice 2 (List.map rGData p0)), (.agg (rGType p1))] (fun d => d = (eB res)) :=
 au Tryz.func113 m_impl_typeOk.eq_1 .z
end Go.Proofs.YtmkamncbkkahjaaGreat
set_option linter.unusedSimpArgs false
set_option linter.unusedVariables false
namespace Go.Proofs.YtmkamncbkkahjaaGreat
open Go Go.RowKit
set_option maxRecDepth 100000
set_option maxHeartbeats 20000000
instance i_impl_TypeValid : ∀ (n : Nat) (p0 : (List GData)) (p1 : GType), Ct (m_impl_TypeValid n p0 p1) fun res => CallsD Tryz.prog 0o00063 [(.slice 2 (List.map rGData p0)), (.agg (rGType p1))] (fun d => d = (eB res)) :=
 au Tryz.func51 m_impl_TypeValid.eq_1 .z
end Go.Proofs.YtmkamncbkkahjaaGreat
set_option linter.unusedSimpArgs false
set_option linter.unusedVariables false
namespace Go.Proofs.YtmkamncbkkahjaaGreat
open Go Go.RowKit
set_option maxRecDepth 100000
set_option maxHeartbeats 20000000
theorem c_slices_IndexFunc_Clause (p0 : (List GClause)) (p1_f : FuncId) (p1_c : List D) (p1_x : ∀ d ∈ p1_c, Free d) (p1 : (GClause → Option Bool)) (p1_h : ∀ a0 r, p1 a0 = some r → CallsD Tryz.prog p1_f ([(.agg (rGClause a0))] ++ p1_c) (fun d => d = (eB r))) (res : Int) (h : m_slices_IndexFunc_Clause p0 p1 = some res) : CallsD Tryz.prog 0o00261 [(.slice 9 (List.map rGClause p0)), .clos p1_f p1_c] (fun d => d = (eI res)) := by
 unfold m_slices_IndexFunc_Clause at h
 have p1_y : Free (.clos p1_f p1_c) := free_clos p1_x
 have p1_z := eq_true p1_x
 refine CD Tryz.func177 [.tmp 4] fun β hβ => ?_
 refine sZ ?_
 apply sq
 refine sZ ?_
 obtain ⟨v, p, h⟩ := bindE h
 obtain ⟨n, j⟩ : ∃ S : Unit → St, S = fun m => ⟨(fun _ => .any), hOfO [], 0, 19⟩ := ⟨_, rfl⟩
 refine TrD.joinQ n (fun z => v = Ctl.brk z) (fun _ _ hg h => TrD.ghost hg h) ?_ (fun m hz => ?_)
 ·apply TrD.block
  obtain ⟨o, i⟩ : ∃ S : Nat → Unit → St, S = fun c g => ⟨(updD (updD (updD (updD (fun _ => .any) 0 (.slice 9 (List.map rGClause p0))) 1 (.clos p1_f p1_c)) 7 (eI (lenZ p0.length))) 8 (eI (c : Int))), hOfO [], 0, 19⟩ := ⟨_, rfl⟩
  refine TrD.limS (sz := 9) (rows := List.map rGClause p0) (seen_slot (d := .slice 9 (List.map rGClause p0)) 0 (by simp)) (fun hlim => ?_)
  rw [List.length_map] at hlim
  refine TrD.forL o p hlim ?_ (fun c A g l C E u f F a t B => ?_) (fun g y => ?_)
  ·rw [i]
   exact gc [] hβ (((va.f.f (by simp) (by simp [p1_y])).f).f) ln
  ·rw [congrFun (congrFun i c) g]
   refine sZ ?_ fun K hK => by simp [u]; exact hK
   apply sq
   refine cT ?_
   apply TrD.skip
   apply sq
   apply TrD.block
   refine sZ ?_
   apply sq
   obtain ⟨w, s, a⟩ := bindE a
   refine rk fun K hK => ?_
   simp [idx_inb l, idx_row l]
   refine cp (p1_h A _ s) ?_ (by simp) (by simp [p1_z])
   simp
   apply hK
   refine TrD.cond (b := w) (by simp) (fun e => ?_) (fun e => ?_)
   ·rw [if_pos e] at a
    refine sZ ?_ fun K hK => by simp [e]; exact hK
    cases a
    obtain rfl := t _ rfl
    cases h
    apply TrD.ret
    exact xD
   rw [iN e] at a
   apply TrD.skip
   refine rZ ?_ fun K hK => by simp [e]; exact hK
   cases a
   refine ToAny.mk () rfl ?_
   rw [i]
   exact gc [] hβ ((((va.f (by simp [f])).f (by simp [f]) (by simp [p1_y])).f (by simp [f])).f (by simp [f])) ln
  rw [congrFun (congrFun i _) g]
  refine sZ ?_ fun K hK => by simp [ilt_len p0.length]; exact hK
  apply sq
  refine cF ?_
  refine TrD.exit ?_
  try simp only [↓reduceIte, Nat.reduceEqDiff, Nat.zero_ne_one, Nat.one_ne_zero, OfNat.ofNat_ne_zero, OfNat.zero_ne_ofNat, OfNat.one_ne_ofNat, OfNat.ofNat_ne_one]
  refine ToAny.mk g y ?_
  rw [j]
  exact gC []
 subst hz
 try dsimp only at h
 rw [congrFun j m]
 refine sZ ?_
 cases h
 apply TrD.ret
 exact xD
instance i_slices_IndexFunc_Clause (p0 : (List GClause)) (p1 : (GClause → Option Bool)) {p1_f : FuncId} {p1_c : List D} [p1_i : CF1 (fun a0 => (.agg (rGClause a0))) (fun r => (eB r)) p1 p1_f p1_c] : Ct (m_slices_IndexFunc_Clause p0 p1) fun res => CallsD Tryz.prog 0o00261 [(.slice 9 (List.map rGClause p0)), .clos p1_f p1_c] (fun d => d = (eI res)) := ⟨c_slices_IndexFunc_Clause p0 p1_f p1_c p1_i.fr p1 p1_i.h⟩
end Go.Proofs.YtmkamncbkkahjaaGreat
set_option linter.unusedSimpArgs false
set_option linter.unusedVariables false
namespace Go.Proofs.YtmkamncbkkahjaaGreat
open Go Go.RowKit
set_option maxRecDepth 100000
set_option maxHeartbeats 20000000
theorem c_slices_ContainsFunc_Clause (p0 : (List GClause)) (p1_f : FuncId) (p1_c : List D) (p1_x : ∀ d ∈ p1_c, Free d) (p1 : (GClause → Option Bool)) (p1_h : ∀ a0 r, p1 a0 = some r → CallsD Tryz.prog p1_f ([(.agg (rGClause a0))] ++ p1_c) (fun d => d = (eB r))) (res : Bool) (h : m_slices_ContainsFunc_Clause p0 p1 = some res) : CallsD Tryz.prog 0o00147 [(.slice 9 (List.map rGClause p0)), .clos p1_f p1_c] (fun d => d = (eB res)) := by
 unfold m_slices_ContainsFunc_Clause at h
 have p1_y : Free (.clos p1_f p1_c) := free_clos p1_x
 have p1_z := eq_true p1_x
 refine CD Tryz.func103 [.tmp 4] fun β hβ => ?_
 refine sZ ?_
 apply sq
 obtain ⟨r1, hr1, h⟩ := bindE h
 refine rk fun K hK => ?_
 simp
 refine cp (c_slices_IndexFunc_Clause p0 p1_f p1_c p1_x p1 p1_h _ hr1) ?_ (by simp) (by simp [p1_y])
 simp
 apply hK
 cases h
 apply TrD.ret
 exact xD
instance i_slices_ContainsFunc_Clause (p0 : (List GClause)) (p1 : (GClause → Option Bool)) {p1_f : FuncId} {p1_c : List D} [p1_i : CF1 (fun a0 => (.agg (rGClause a0))) (fun r => (eB r)) p1 p1_f p1_c] : Ct (m_slices_ContainsFunc_Clause p0 p1) fun res => CallsD Tryz.prog 0o00147 [(.slice 9 (List.map rGClause p0)), .clos p1_f p1_c] (fun d => d = (eB res)) := ⟨c_slices_ContainsFunc_Clause p0 p1_f p1_c p1_i.fr p1 p1_i.h⟩
end Go.Proofs.YtmkamncbkkahjaaGreat
set_option linter.unusedSimpArgs false
set_option linter.unusedVariables false
namespace Go.Proofs.YtmkamncbkkahjaaGreat
open Go Go.RowKit
set_option maxRecDepth 100000
set_option maxHeartbeats 20000000
instance i_impl_ClausesValid : ∀ (n : Nat) (p0 : (List GData)) (p1 : GType) (p2 : (List GClause)), Ct (m_impl_ClausesValid n p0 p1 p2) fun res => CallsD Tryz.prog 0o00055 [(.slice 2 (List.map rGData p0)), (.agg (rGType p1)), (.slice 9 (List.map rGClause p2))] (fun d => d = (eB res)) :=
 au Tryz.func45 m_impl_ClausesValid.eq_1 .z
end Go.Proofs.YtmkamncbkkahjaaGreat
set_option linter.unusedSimpArgs false
set_option linter.unusedVariables false
namespace Go.Proofs.YtmkamncbkkahjaaGreat
open Go Go.RowKit
set_option maxRecDepth 100000
set_option maxHeartbeats 20000000
set_option maxRecDepth 100000 in
theorem c_slices_Clone_int (p0 : (List Int)) (res : (List Int)) (h : m_slices_Clone_int p0 = some res) : CallsH Tryz.prog 0o00230 [] [(.slice 1 (List.map rI p0))] (fun H d => H = [some ⟨1, List.map rI res, 0, 0x0003⟩] ∧ d = .sl 1 0 res.length) := by
  unfold m_slices_Clone_int at h
  refine CallsH.of (res := [.tmp 2]) tysOk Tryz.func152 (by decide) rfl (Nat.le_of_ble_eq_true rfl) rfl rfl (fun β hβ => ?_)
  refine TrD.seq ?_
  refine TrD.regK tysOk (fun K hK => ?_)
  simp
  refine hK _ ?_
  refine TrD.seq ?_
  refine TrD.seq ?_
  refine TrD.regK tysOk (fun K hK => ?_)
  simp
  refine ⟨?_, fun hnil => ?_⟩
  · refine hK _ ?_
    refine TrD.cond (b := false) (by simp) (fun hb => by cases hb) (fun hb => ?_)
    refine TrD.skip ?_
    refine TrD.seq ?_
    obtain ⟨x3, hx3, h⟩ := bindE h
    have hx3_r := (app_some hx3).2
    try simp only [List.length_append, List.length_cons, List.length_nil, List.length_map, Nat.zero_add, Nat.add_zero, Nat.reduceAdd, one_add_len, two_add_len] at hx3_r
    obtain hhx3 := app_nil hx3
    subst hhx3
    refine TrD.regK tysOk (fun K hK => ?_)
    simp [hx3_r]
    refine hK _ ?_
    obtain rfl := Option.some.inj h
    refine TrD.ret ?_
    refine exitHG (σ' := ⟨(updD (fun _ => .any) 2 (.sl 1 0 (p0).length)), hOfO [some ⟨1, (List.map rI p0), 0, 0x0003⟩], 1, 8⟩) ?_ ?_
    · exact Ghost.canonV 0 [40] _ _ hβ (keep_first (by decide)) (by decide) (vT_upd (v_of (d0 := (.sl 1 40 (p0).length)) (by simp [hx3_r]) (v_sl rfl)) (vT_any _)) (.cons (lv (L := ⟨1, (List.map rI p0), 0, 0x0003⟩) (by simp [hx3_r]) rfl rfl (by simp [hx3_r]) (rv_free (by simp [hx3_r]) (free_rows_of (fun _ => by simp) _))) .nil)
    · dsimp only [resD]
      exact ⟨[some ⟨1, (List.map rI p0), 0, 0x0003⟩], [], rfl, by simp, by simp, .inl rfl, by simp [packD]⟩
  · replace h : some ([]) = some res := by simp only [hnil] at h; simpa [app] using h
    refine hK _ ?_
    refine TrD.cond (b := true) (by simp) (fun hb => ?_) (fun hb => by cases hb)
    refine TrD.seq ?_
    refine TrD.regK tysOk (fun K hK => ?_)
    simp
    refine hK _ ?_
    obtain rfl := Option.some.inj h
    refine TrD.ret ?_
    refine exitHG (σ' := ⟨(updD (fun _ => .any) 2 (.sl 1 0 0)), hOfO [some ⟨1, (List.map rI []), 0, 0x0003⟩], 1, 8⟩) ?_ ?_
    · refine (Ghost.ownNil (s := 2) (by simp) 1 0x0003).trans ?_
      exact Ghost.canonV 0 [32] _ _ hβ (keep_first (by decide)) (by decide) (vT_upd (v_of (d0 := (.sl 1 32 0)) (by simp) (v_sl rfl)) (vT_any _)) (.cons (lv (L := ⟨1, (List.map rI []), 0, 0x0003⟩) (by simp) rfl rfl (by simp) (rv_free (by simp) (free_rows_of (fun _ => by simp) _))) .nil)
    · dsimp only [resD]
      exact ⟨[some ⟨1, (List.map rI []), 0, 0x0003⟩], [], rfl, by simp, by simp, .inl rfl, by simp [packD]⟩
instance i_slices_Clone_int : ∀ (p0 : (List Int)), Ct (m_slices_Clone_int p0) fun res => CallsH Tryz.prog 0o00230 [] [(.slice 1 (List.map rI p0))] (fun H d => H = [some ⟨1, List.map rI res, 0, 0x0003⟩] ∧ d = .sl 1 0 res.length) := fun p0 => ⟨c_slices_Clone_int p0⟩
end Go.Proofs.YtmkamncbkkahjaaGreat
set_option linter.unusedSimpArgs false
set_option linter.unusedVariables false
namespace Go.Proofs.YtmkamncbkkahjaaGreat
open Go Go.RowKit
set_option maxRecDepth 100000
set_option maxHeartbeats 20000000
instance i_impl_anyPattern : Ct (m_impl_anyPattern) fun res => CallsD Tryz.prog 0o00231 [] (fun d => d = (.agg (rGPattern res))) :=
 au Tryz.func153 m_impl_anyPattern.eq_1 .z
theorem c_impl_anyPattern : ∀ res, m_impl_anyPattern = some res → CallsD Tryz.prog 0o00231 [] (fun d => d = (.agg (rGPattern res))) := (i_impl_anyPattern).pf
end Go.Proofs.YtmkamncbkkahjaaGreat
set_option linter.unusedSimpArgs false
set_option linter.unusedVariables false
namespace Go.Proofs.YtmkamncbkkahjaaGreat
open Go Go.RowKit
set_option maxRecDepth 100000
set_option maxHeartbeats 20000000
set_option maxRecDepth 100000 in
theorem c_slices_Clone_PathBind (p0 : (List GPathBind)) (res : (List GPathBind)) (h : m_slices_Clone_PathBind p0 = some res) : CallsH Tryz.prog 0o00227 [] [(.slice 2 (List.map rGPathBind p0))] (fun H d => H = [some ⟨2, List.map rGPathBind res, 0, 0x008c⟩] ∧ d = .sl 2 0 res.length) := by
  unfold m_slices_Clone_PathBind at h
  refine CallsH.of (res := [.tmp 2]) tysOk Tryz.func151 (by decide) rfl (Nat.le_of_ble_eq_true rfl) rfl rfl (fun β hβ => ?_)
  refine TrD.seq ?_
  refine TrD.regK tysOk (fun K hK => ?_)
  simp
  refine hK _ ?_
  refine TrD.seq ?_
  refine TrD.seq ?_
  refine TrD.regK tysOk (fun K hK => ?_)
  simp
  refine ⟨?_, fun hnil => ?_⟩
  · refine hK _ ?_
    refine TrD.cond (b := false) (by simp) (fun hb => by cases hb) (fun hb => ?_)
    refine TrD.skip ?_
    refine TrD.seq ?_
    obtain ⟨x3, hx3, h⟩ := bindE h
    have hx3_r := (app_some hx3).2
    try simp only [List.length_append, List.length_cons, List.length_nil, List.length_map, Nat.zero_add, Nat.add_zero, Nat.reduceAdd, one_add_len, two_add_len] at hx3_r
    obtain hhx3 := app_nil hx3
    subst hhx3
    refine TrD.regK tysOk (fun K hK => ?_)
    simp [hx3_r]
    refine hK _ ?_
    obtain rfl := Option.some.inj h
    refine TrD.ret ?_
    refine exitHG (σ' := ⟨(updD (fun _ => .any) 2 (.sl 2 0 (p0).length)), hOfO [some ⟨2, (List.map rGPathBind p0), 0, 0x008c⟩], 1, 8⟩) ?_ ?_
    · exact Ghost.canonV 0 [40] _ _ hβ (keep_first (by decide)) (by decide) (vT_upd (v_of (d0 := (.sl 2 40 (p0).length)) (by simp [hx3_r]) (v_sl rfl)) (vT_any _)) (.cons (lv (L := ⟨2, (List.map rGPathBind p0), 0, 0x008c⟩) (by simp [hx3_r]) rfl rfl (by simp [hx3_r]) (rv_free (by simp [hx3_r]) (free_rows_of fr_GPathBind _))) .nil)
    · dsimp only [resD]
      exact ⟨[some ⟨2, (List.map rGPathBind p0), 0, 0x008c⟩], [], rfl, by simp, by simp, .inl rfl, by simp [packD]⟩
  · replace h : some ([]) = some res := by simp only [hnil] at h; simpa [app] using h
    refine hK _ ?_
    refine TrD.cond (b := true) (by simp) (fun hb => ?_) (fun hb => by cases hb)
    refine TrD.seq ?_
    refine TrD.regK tysOk (fun K hK => ?_)
    simp
    refine hK _ ?_
    obtain rfl := Option.some.inj h
    refine TrD.ret ?_
    refine exitHG (σ' := ⟨(updD (fun _ => .any) 2 (.sl 2 0 0)), hOfO [some ⟨2, (List.map rGPathBind []), 0, 0x008c⟩], 1, 8⟩) ?_ ?_
    · refine (Ghost.ownNil (s := 2) (by simp) 2 0x008c).trans ?_
      exact Ghost.canonV 0 [32] _ _ hβ (keep_first (by decide)) (by decide) (vT_upd (v_of (d0 := (.sl 2 32 0)) (by simp) (v_sl rfl)) (vT_any _)) (.cons (lv (L := ⟨2, (List.map rGPathBind []), 0, 0x008c⟩) (by simp) rfl rfl (by simp) (rv_free (by simp) (free_rows_of fr_GPathBind _))) .nil)
    · dsimp only [resD]
      exact ⟨[some ⟨2, (List.map rGPathBind []), 0, 0x008c⟩], [], rfl, by simp, by simp, .inl rfl, by simp [packD]⟩
instance i_slices_Clone_PathBind : ∀ (p0 : (List GPathBind)), Ct (m_slices_Clone_PathBind p0) fun res => CallsH Tryz.prog 0o00227 [] [(.slice 2 (List.map rGPathBind p0))] (fun H d => H = [some ⟨2, List.map rGPathBind res, 0, 0x008c⟩] ∧ d = .sl 2 0 res.length) := fun p0 => ⟨c_slices_Clone_PathBind p0⟩
end Go.Proofs.YtmkamncbkkahjaaGreat
