import Derived.Test.YtmkamncbkkahjaaGreatJMir
import Derived.Test.YtmkamncbkkahjaaGreatJAuI
import Derived.Test.YtmkamncbkkahjaaGreatJAuto
set_option linter.unusedSimpArgs false
set_option linter.unusedVariables false
set_option linter.unusedSimpArgs false
set_option linter.unusedVariables false
namespace Go.Proofs.YtmkamncbkkahjaaGreat
open Go Go.RowKit
set_option maxRecDepth 100000
set_option maxHeartbeats 20000000
theorem c_slices_EqualFunc_Value (p0 : (List GValue)) (p1 : (List GValue)) (p2_f : FuncId) (p2_c : List D) (p2_x : ∀ d ∈ p2_c, Free d) (p2 : (GValue → GValue → Option Bool)) (p2_h : ∀ a0 a1 r, p2 a0 a1 = some r → CallsD Tryz.prog p2_f ([(.agg (rGValue a0)), (.agg (rGValue a1))] ++ p2_c) (fun d => d = (eB r))) (res : Bool) (h : m_slices_EqualFunc_Value p0 p1 p2 = some res) : CallsD Tryz.prog 0o00146 [(.slice 3 (List.map rGValue p0)), (.slice 3 (List.map rGValue p1)), .clos p2_f p2_c] (fun d => d = (eB res)) := by
 unfold m_slices_EqualFunc_Value at h
 have p2_y : Free (.clos p2_f p2_c) := free_clos p2_x
 have p2_z := eq_true p2_x
 refine CD Tryz.func102 [.tmp 6] fun β hβ => ?_
 refine sZ ?_
 apply sq
 refine sZ ?_
 refine TrD.cond (b := !ieq (lenZ p0.length) (lenZ p1.length)) (by simp) (fun hb2 => ?_) (fun hb2 => ?_)
 ·rw [if_pos hb2] at h
  refine sZ ?_ fun K hK => by simp [hb2]; exact hK
  cases h
  apply TrD.ret
  exact xD
 rw [iN hb2] at h
 apply TrD.skip
 apply sq
 refine sZ ?_ fun K hK => by simp [hb2]; exact hK
 obtain ⟨w, q, h⟩ := bindE h
 obtain ⟨o, j⟩ : ∃ S : Unit → St, S = fun n => ⟨(fun _ => .any), hOfO [], 0, 32⟩ := ⟨_, rfl⟩
 refine TrD.joinQ o (fun z => w = Ctl.brk z) (fun _ _ hg h => TrD.ghost hg h) ?_ (fun n hz => ?_)
 ·apply TrD.block
  obtain ⟨p, g⟩ : ∃ S : Nat → Unit → St, S = fun i f => ⟨(updD (updD (updD (updD (updD (fun _ => .any) 1 (.slice 3 (List.map rGValue p1))) 2 (.clos p2_f p2_c)) 15 (.slice 3 (List.map rGValue p0))) 16 (eI (lenZ p0.length))) 17 (eI (i : Int))), hOfO [], 0, 32⟩ := ⟨_, rfl⟩
  refine TrD.limS (sz := 3) (rows := List.map rGValue p0) (seen_slot (d := .slice 3 (List.map rGValue p0)) 0 (by simp)) (fun hlim => ?_)
  rw [List.length_map] at hlim
  refine TrD.forL p q hlim ?_ (fun i B f m F G v c H a u E => ?_) (fun f A => ?_)
  ·rw [g]
   exact gc [] hβ ((((va.f.f (by simp) (by simp [p2_y])).f).f).f) ln
  ·rw [congrFun (congrFun g i) f]
   refine sZ ?_ fun K hK => by simp [v]; exact hK
   apply sq
   refine cT ?_
   apply TrD.skip
   apply sq
   apply TrD.block
   refine sZ ?_ fun K hK => by simp [idx_inb m, idx_row m]; exact hK
   apply sq
   obtain ⟨C, l, a⟩ := bindE a
   refine rZ ?_ fun K hK => by simp [idx_inb l, idx_row l]; exact hK
   apply sq
   obtain ⟨y, t, a⟩ := bindE a
   refine rk fun K hK => ?_
   simp
   refine cp (p2_h B C _ t) ?_ (by simp) (by simp [p2_z])
   simp
   apply hK
   refine TrD.cond (b := (!y)) (by simp) (fun e => ?_) (fun e => ?_)
   ·rw [if_pos e] at a
    refine sZ ?_ fun K hK => by simp [e]; exact hK
    cases a
    obtain rfl := u _ rfl
    cases h
    apply TrD.ret
    exact xD
   rw [iN e] at a
   apply TrD.skip
   refine rZ ?_ fun K hK => by simp [e]; exact hK
   cases a
   refine ToAny.mk () rfl ?_
   rw [g]
   exact gc [] hβ (((((va.f (by simp [c])).f (by simp [c]) (by simp [p2_y])).f (by simp [c])).f (by simp [c])).f (by simp [c])) ln
  rw [congrFun (congrFun g _) f]
  refine sZ ?_ fun K hK => by simp [ilt_len p0.length]; exact hK
  apply sq
  refine cF ?_
  refine TrD.exit ?_
  try simp only [↓reduceIte, Nat.reduceEqDiff, Nat.zero_ne_one, Nat.one_ne_zero, OfNat.ofNat_ne_zero, OfNat.zero_ne_ofNat, OfNat.one_ne_ofNat, OfNat.ofNat_ne_one]
  refine ToAny.mk f A ?_
  rw [j]
  exact gC []
 subst hz
 try dsimp only at h
 rw [congrFun j n]
 refine sZ ?_
 cases h
 apply TrD.ret
 exact xD
instance i_slices_EqualFunc_Value (p0 : (List GValue)) (p1 : (List GValue)) (p2 : (GValue → GValue → Option Bool)) {p2_f : FuncId} {p2_c : List D} [p2_i : CF2 (fun a0 => (.agg (rGValue a0))) (fun a1 => (.agg (rGValue a1))) (fun r => (eB r)) p2 p2_f p2_c] : Ct (m_slices_EqualFunc_Value p0 p1 p2) fun res => CallsD Tryz.prog 0o00146 [(.slice 3 (List.map rGValue p0)), (.slice 3 (List.map rGValue p1)), .clos p2_f p2_c] (fun d => d = (eB res)) := ⟨c_slices_EqualFunc_Value p0 p1 p2_f p2_c p2_i.fr p2 p2_i.h⟩
end Go.Proofs.YtmkamncbkkahjaaGreat
set_option linter.unusedSimpArgs false
set_option linter.unusedVariables false
namespace Go.Proofs.YtmkamncbkkahjaaGreat
open Go Go.RowKit
set_option maxRecDepth 100000
set_option maxHeartbeats 20000000
instance i_impl_ValueSame : ∀ (n : Nat) (p0 : GValue) (p1 : GValue), Ct (m_impl_ValueSame n p0 p1) fun res => CallsD Tryz.prog 0o00054 [(.agg (rGValue p0)), (.agg (rGValue p1))] (fun d => d = (eB res)) :=
 ar (au Tryz.func44 m_impl_ValueSame.eq_2 .z)
end Go.Proofs.YtmkamncbkkahjaaGreat
set_option linter.unusedSimpArgs false
set_option linter.unusedVariables false
namespace Go.Proofs.YtmkamncbkkahjaaGreat
open Go Go.RowKit
set_option maxRecDepth 100000
set_option maxHeartbeats 20000000
instance i_laws_ptBinds : ∀ (n : Nat) (p0 : (List GBind)) (p1 : (List GBind)), Ct (m_laws_ptBinds n p0 p1) fun res => CallsD Tryz.prog 0o00014 [(.slice 4 (List.map rGBind p0)), (.slice 4 (List.map rGBind p1))] (fun d => d = (eB res)) :=
 au Tryz.func12 m_laws_ptBinds.eq_1 (.o (.o (.o (.i .z (.ls 0 (.f [] [] [0, 1, 5] [] (fun (k162 : Nat) (s158 : Unit) => [(5, eI (k162 : Int))]) (fun k162 s158 => []) (fun k162 s158 => .o (.g [0, 1, 5] [] [] [] (.o (.i (.d [0, 1, 2, 3, 4, 5, 6, 7, 8, 9, 10, 11, 12, 13, 14, 15, 16, 17, 18, 19, 20, 21, 22, 23, 24] [] [] .z) (.o (.d [0, 1, 2, 3, 4, 5, 6, 7, 8, 9, 10, 11, 12, 13, 14, 15, 16, 17, 18, 19, 20, 21, 22, 23, 24] [] [] .z)))))) (fun s166 => .z)))))))
theorem c_laws_ptBinds (n : Nat) (p0 : (List GBind)) (p1 : (List GBind)) : ∀ res, m_laws_ptBinds n p0 p1 = some res → CallsD Tryz.prog 0o00014 [(.slice 4 (List.map rGBind p0)), (.slice 4 (List.map rGBind p1))] (fun d => d = (eB res)) := (i_laws_ptBinds n p0 p1).pf
end Go.Proofs.YtmkamncbkkahjaaGreat
set_option linter.unusedSimpArgs false
set_option linter.unusedVariables false
namespace Go.Proofs.YtmkamncbkkahjaaGreat
open Go Go.RowKit
set_option maxRecDepth 100000
set_option maxHeartbeats 20000000
instance i_slices_Index_int : ∀ (p0 : (List Int)) (p1 : Int), Ct (m_slices_Index_int p0 p1) fun res => CallsD Tryz.prog 0o00360 [(.slice 1 (List.map rI p0)), (eI p1)] (fun d => d = (eI res)) :=
 au Tryz.func240 m_slices_Index_int.eq_1 (.o (.o (.ls 0 (.f [] [] [0, 1, 7, 8] [] (fun (k44 : Nat) (s40 : Unit) => [(8, eI (k44 : Int))]) (fun k44 s40 => []) (fun k44 s40 => .z) (fun s48 => .z)))))
end Go.Proofs.YtmkamncbkkahjaaGreat
set_option linter.unusedSimpArgs false
set_option linter.unusedVariables false
namespace Go.Proofs.YtmkamncbkkahjaaGreat
open Go Go.RowKit
set_option maxRecDepth 100000
set_option maxHeartbeats 20000000
instance i_slices_Contains_int : ∀ (p0 : (List Int)) (p1 : Int), Ct (m_slices_Contains_int p0 p1) fun res => CallsD Tryz.prog 0o00250 [(.slice 1 (List.map rI p0)), (eI p1)] (fun d => d = (eB res)) :=
 au Tryz.func168 m_slices_Contains_int.eq_1 .z
end Go.Proofs.YtmkamncbkkahjaaGreat
set_option linter.unusedSimpArgs false
set_option linter.unusedVariables false
namespace Go.Proofs.YtmkamncbkkahjaaGreat
open Go Go.RowKit
set_option maxRecDepth 100000
set_option maxHeartbeats 20000000
instance i_impl_ctorsOf : ∀ (p0 : (List GData)) (p1 : GType), Ct (m_impl_ctorsOf p0 p1) fun res => CallsD Tryz.prog 0o00162 [(.slice 2 (List.map rGData p0)), (.agg (rGType p1))] (fun d => d = (.slice 1 (List.map rI res))) :=
 au Tryz.func114 m_impl_ctorsOf.eq_1 (.o (.o (.j 2 0 [5] [9000] (fun (s116 : (List Int)) => [(5, .sl 1 9000 (s116).length)]) (fun s116 => [(9000, some ⟨1, (List.map rI s116), 0, 0x0003⟩)]) (.i (.o (.pN 5 1 0x0003 (.ls 16 (.f [5] [112] [3, 5, 16, 17, 18] [0, 112] (fun (k198 : Nat) (s194 : (List Int)) => [(5, .sl 1 112 (s194).length), (18, eI (k198 : Int))]) (fun k198 s194 => [(112, some ⟨1, (List.map rI s194), 0, 0x0003⟩)]) (fun k198 s194 => .o (.j 5 0 [3, 5, 16, 17, 18] [0, 1] (fun (s217 : (List Int)) => [(5, .sl 1 1 (s217).length)]) (fun s217 => [(1, some ⟨1, (List.map rI s217), 0, 0x0003⟩)]) .z (fun _ => .z))) (fun s202 => .z))))) (.pN 5 1 0x0003 .z)) (fun _ => .z))))
end Go.Proofs.YtmkamncbkkahjaaGreat
set_option linter.unusedSimpArgs false
set_option linter.unusedVariables false
namespace Go.Proofs.YtmkamncbkkahjaaGreat
open Go Go.RowKit
set_option maxRecDepth 100000
set_option maxHeartbeats 20000000
instance i_impl_argTypes : ∀ (p0 : (List GData)) (p1 : GType) (p2 : Int), Ct (m_impl_argTypes p0 p1 p2) fun res => CallsD Tryz.prog 0o00163 [(.slice 2 (List.map rGData p0)), (.agg (rGType p1)), (eI p2)] (fun d => d = (.slice 2 (List.map rGType res))) :=
 au Tryz.func115 m_impl_argTypes.eq_1 (.o (.o (.o (.o (.o (.j 3 0 [7, 8] [88] (fun (s4 : Int) => [(8, eI s4)]) (fun _ => []) .z (fun s4 => .pN 9 2 0x0019 (.ls 28 (.f [9] [41] [8, 9, 28, 29, 30] [41] (fun (k103 : Nat) (s99 : (List GType)) => [(9, .sl 2 41 (s99).length), (30, eI (k103 : Int))]) (fun k103 s99 => [(41, some ⟨2, (List.map rGType s99), 0, 0x0019⟩)]) (fun k103 s99 => .b fun (x104 : GType) => .j 9 0 [8, 9, 11, 28, 29, 30] [0, 25] (fun (s115 : Int) => []) (fun s115 => [(25, some ⟨2, [[(eI x104.data), (eI s115)]], 0, 0x0019⟩)]) .z (fun _ => .z)) (fun s107 => .z))))))))))
end Go.Proofs.YtmkamncbkkahjaaGreat
set_option linter.unusedSimpArgs false
set_option linter.unusedVariables false
namespace Go.Proofs.YtmkamncbkkahjaaGreat
open Go Go.RowKit
set_option maxRecDepth 100000
set_option maxHeartbeats 20000000
instance i_impl_within : ∀ (p0 : Int) (p1 : Int) (p2 : Int), Ct (m_impl_within p0 p1 p2) fun res => CallsD Tryz.prog 0o00064 [(eI p0), (eI p1), (eI p2)] (fun d => d = (eB res)) :=
 au Tryz.func52 m_impl_within.eq_1 .z
end Go.Proofs.YtmkamncbkkahjaaGreat
set_option linter.unusedSimpArgs false
set_option linter.unusedVariables false
namespace Go.Proofs.YtmkamncbkkahjaaGreat
open Go Go.RowKit
set_option maxRecDepth 100000
set_option maxHeartbeats 20000000
instance i_impl_valueScan : ∀ (n : Nat) (p0 : (List GData)) (p1 : GType) (p2 : GValue) (p3 : Int) (p4 : Bool) (p5 : Int), Ct (m_impl_valueScan n p0 p1 p2 p3 p4 p5) fun res => CallsH Tryz.prog 0o00131 [⟨1, [[(eI p5)]], 0, 0x0003⟩] [(.slice 2 (List.map rGData p0)), (.agg (rGType p1)), (.agg (rGValue p2)), (eI p3), (eB p4), .ptr 1 0 0 0] (fun H d => H = [some ⟨1, [[(eI res.2)]], 0, 0x0003⟩] ∧ d = (eB res.1)) :=
 ar (au Tryz.func89 m_impl_valueScan.eq_2 (.o (.o (.o (.o (.o (.o (.o (.o (.i .z (.i .z (.j 4 0 [0, 3, 4, 5, 7, 8] [0, 1, 9] (fun (s92 : Unit) => []) (fun _ => []) (.i (.i .z (.i .z (.g [0, 3, 4, 5, 7, 8] [0, 1, 9] [] [] (.i (.d [0, 1, 2, 3, 4, 5, 7, 8, 6, 9, 10, 11, 12] [2] [] .z) (.o (.o (.d [0, 1, 2, 3, 4, 5, 7, 8, 6, 9, 10, 11, 12] [1, 2] [] .z))))))) (.i .z (.g [0, 3, 4, 5, 7, 8] [0, 1, 9] [] [] (.i (.d [0, 1, 2, 3, 4, 5, 7, 8, 6, 9, 10, 11, 12] [2] [] .z) (.o (.o (.d [0, 1, 2, 3, 4, 5, 7, 8, 6, 9, 10, 11, 12] [1, 2] [] .z))))))) (fun s92 => .o (.i .z (.ls 84 (.f [] [0] [0, 3, 4, 5, 13, 88, 89, 90] [0] (fun (k244 : Nat) (s240 : Int) => [(90, eI (k244 : Int))]) (fun k244 s240 => [(0, some ⟨1, [[(eI s240)]], 0, 0x0003⟩)]) (fun k244 s240 => .o (.g [0, 3, 4, 5, 13, 14, 15, 88, 89, 90] [0, 33] [] [] (.o (.o (.d [0, 1, 2, 3, 4, 5, 6, 7, 8, 9, 10, 11] [1] [] .z))))) (fun s248 => .z)))))))))))))))))
end Go.Proofs.YtmkamncbkkahjaaGreat
set_option linter.unusedSimpArgs false
set_option linter.unusedVariables false
namespace Go.Proofs.YtmkamncbkkahjaaGreat
open Go Go.RowKit
set_option maxRecDepth 100000
set_option maxHeartbeats 20000000
instance i_impl_valueOk : ∀ (n : Nat) (p0 : (List GData)) (p1 : GType) (p2 : GValue), Ct (m_impl_valueOk n p0 p1 p2) fun res => CallsD Tryz.prog 0o00046 [(.slice 2 (List.map rGData p0)), (.agg (rGType p1)), (.agg (rGValue p2))] (fun d => d = (eB res)) :=
 au Tryz.func38 m_impl_valueOk.eq_1 .z
end Go.Proofs.YtmkamncbkkahjaaGreat
set_option linter.unusedSimpArgs false
set_option linter.unusedVariables false
namespace Go.Proofs.YtmkamncbkkahjaaGreat
open Go Go.RowKit
set_option maxRecDepth 100000
set_option maxHeartbeats 20000000
instance i_impl_only : ∀ (p0 : GPattern) (p1 : Bool) (p2 : Bool) (p3 : Bool) (p4 : Int), Ct (m_impl_only p0 p1 p2 p3 p4) fun res => CallsD Tryz.prog 0o00445 [(.agg (rGPattern p0)), (eB p1), (eB p2), (eB p3), (eI p4)] (fun d => d = (eB res)) :=
 au Tryz.func293 m_impl_only.eq_1 .z
end Go.Proofs.YtmkamncbkkahjaaGreat
set_option linter.unusedSimpArgs false
set_option linter.unusedVariables false
namespace Go.Proofs.YtmkamncbkkahjaaGreat
open Go Go.RowKit
set_option maxRecDepth 100000
set_option maxHeartbeats 20000000
instance i_impl_isVar : ∀ (p0 : Int), Ct (m_impl_isVar p0) fun res => CallsD Tryz.prog 0o00446 [(eI p0)] (fun d => d = (eB res)) :=
 au Tryz.func294 m_impl_isVar.eq_1 .z
end Go.Proofs.YtmkamncbkkahjaaGreat
set_option linter.unusedSimpArgs false
set_option linter.unusedVariables false
namespace Go.Proofs.YtmkamncbkkahjaaGreat
open Go Go.RowKit
set_option maxRecDepth 100000
set_option maxHeartbeats 20000000
instance i_impl_shape : ∀ (p0 : (List GData)) (p1 : GType) (p2 : GPattern), Ct (m_impl_shape p0 p1 p2) fun res => CallsD Tryz.prog 0o00370 [(.slice 2 (List.map rGData p0)), (.agg (rGType p1)), (.agg (rGPattern p2))] (fun d => d = .tup [(.slice 2 (List.map rGType res.1)), (eB res.2)]) :=
 au Tryz.func248 m_impl_shape.eq_1 (.o (.o (.o (.i .z (.i .z (.i (.g [4, 5] [0, 8] [] [] (.i (.o (.i (.i (.i (.d [0, 1, 2, 3, 4, 5, 6, 7, 8, 9, 10, 11, 12, 13, 14, 15, 16, 17, 18, 19, 20, 21, 22, 23, 24, 25] [0, 1] [] .z) (.d [0, 1, 2, 3, 4, 5, 6, 7, 8, 9, 10, 11, 12, 13, 14, 15, 16, 17, 18, 19, 20, 21, 22, 23, 24, 25] [0, 1] [] .z)) (.d [0, 1, 2, 3, 4, 5, 6, 7, 8, 9, 10, 11, 12, 13, 14, 15, 16, 17, 18, 19, 20, 21, 22, 23, 24, 25] [0, 1] [] .z)) (.d [0, 1, 2, 3, 4, 5, 6, 7, 8, 9, 10, 11, 12, 13, 14, 15, 16, 17, 18, 19, 20, 21, 22, 23, 24, 25] [0, 1] [] .z))) (.d [0, 1, 2, 3, 4, 5, 6, 7, 8, 9, 10, 11, 12, 13, 14, 15, 16, 17, 18, 19, 20, 21, 22, 23, 24, 25] [0] [] .z))) (.i (.g [0, 4, 5] [0, 8] [] [] (.o (.o (.d [0, 1, 3, 4, 2, 5, 6] [0, 1] [] .z)))) (.i (.g [4, 5] [0, 8] [] [] (.o (.dz [0, 1, 3, 4, 2, 5, 6] [0, 1] [1048649] [] .z))) (.i (.g [4, 5] [0, 8] [] [] (.o (.i (.o (.dz [0, 2, 3, 4, 5, 6, 7, 8, 1, 9, 10] [0, 1] [1048655] [] .z)) (.dz [0, 2, 3, 4, 5, 6, 7, 8, 1, 9, 10] [0, 1] [1048655] [] .z)))) .z)))))))))
end Go.Proofs.YtmkamncbkkahjaaGreat
set_option linter.unusedSimpArgs false
set_option linter.unusedVariables false
namespace Go.Proofs.YtmkamncbkkahjaaGreat
open Go Go.RowKit
set_option maxRecDepth 100000
set_option maxHeartbeats 20000000
instance i_slices_Index_VarType : ∀ (p0 : (List GVarType)) (p1 : GVarType), Ct (m_slices_Index_VarType p0 p1) fun res => CallsD Tryz.prog 0o00407 [(.slice 3 (List.map rGVarType p0)), (.agg (rGVarType p1))] (fun d => d = (eI res)) :=
 au Tryz.func263 m_slices_Index_VarType.eq_1 (.o (.o (.ls 0 (.f [] [] [0, 3, 7, 8] [0] (fun (k44 : Nat) (s40 : Unit) => [(8, eI (k44 : Int))]) (fun k44 s40 => []) (fun k44 s40 => .o (.g [0, 3, 5, 7, 8] [0] [] [] (.d [0, 1, 2, 3, 4, 5] [0] [] .z))) (fun s48 => .z)))))
end Go.Proofs.YtmkamncbkkahjaaGreat
set_option linter.unusedSimpArgs false
set_option linter.unusedVariables false
namespace Go.Proofs.YtmkamncbkkahjaaGreat
open Go Go.RowKit
set_option maxRecDepth 100000
set_option maxHeartbeats 20000000
instance i_slices_Contains_VarType : ∀ (p0 : (List GVarType)) (p1 : GVarType), Ct (m_slices_Contains_VarType p0 p1) fun res => CallsD Tryz.prog 0o00315 [(.slice 3 (List.map rGVarType p0)), (.agg (rGVarType p1))] (fun d => d = (eB res)) :=
 au Tryz.func205 m_slices_Contains_VarType.eq_1 .z
end Go.Proofs.YtmkamncbkkahjaaGreat
set_option linter.unusedSimpArgs false
set_option linter.unusedVariables false
namespace Go.Proofs.YtmkamncbkkahjaaGreat
open Go Go.RowKit
set_option maxRecDepth 100000
set_option maxHeartbeats 20000000
instance i_impl_sameVars_1 : ∀ (p0 : GVarType) (q0 : (List GVarType)), Ct (m_impl_sameVars_1 p0 q0) fun res => CallsD Tryz.prog 0o00450 [(.agg (rGVarType p0)), .cptr [(.slice 3 (List.map rGVarType q0))]] (fun d => d = (eB res)) :=
 au Tryz.func296 m_impl_sameVars_1.eq_1 .z
end Go.Proofs.YtmkamncbkkahjaaGreat
set_option linter.unusedSimpArgs false
set_option linter.unusedVariables false
namespace Go.Proofs.YtmkamncbkkahjaaGreat
open Go Go.RowKit
set_option maxRecDepth 100000
set_option maxHeartbeats 20000000
theorem c_slices_IndexFunc_VarType (p0 : (List GVarType)) (p1_f : FuncId) (p1_c : List D) (p1_x : ∀ d ∈ p1_c, Free d) (p1 : (GVarType → Option Bool)) (p1_h : ∀ a0 r, p1 a0 = some r → CallsD Tryz.prog p1_f ([(.agg (rGVarType a0))] ++ p1_c) (fun d => d = (eB r))) (res : Int) (h : m_slices_IndexFunc_VarType p0 p1 = some res) : CallsD Tryz.prog 0o00460 [(.slice 3 (List.map rGVarType p0)), .clos p1_f p1_c] (fun d => d = (eI res)) := by
 unfold m_slices_IndexFunc_VarType at h
 have p1_y : Free (.clos p1_f p1_c) := free_clos p1_x
 have p1_z := eq_true p1_x
 refine CD Tryz.func304 [.tmp 4] fun β hβ => ?_
 refine sZ ?_
 apply sq
 refine sZ ?_
 obtain ⟨v, p, h⟩ := bindE h
 obtain ⟨n, j⟩ : ∃ S : Unit → St, S = fun m => ⟨(fun _ => .any), hOfO [], 0, 19⟩ := ⟨_, rfl⟩
 refine TrD.joinQ n (fun z => v = Ctl.brk z) (fun _ _ hg h => TrD.ghost hg h) ?_ (fun m hz => ?_)
 ·apply TrD.block
  obtain ⟨o, i⟩ : ∃ S : Nat → Unit → St, S = fun c g => ⟨(updD (updD (updD (updD (fun _ => .any) 0 (.slice 3 (List.map rGVarType p0))) 1 (.clos p1_f p1_c)) 7 (eI (lenZ p0.length))) 8 (eI (c : Int))), hOfO [], 0, 19⟩ := ⟨_, rfl⟩
  refine TrD.limS (sz := 3) (rows := List.map rGVarType p0) (seen_slot (d := .slice 3 (List.map rGVarType p0)) 0 (by simp)) (fun hlim => ?_)
  rw [List.length_map] at hlim
  refine TrD.forL o p hlim ?_ (fun c A g l C E u f F a t B => ?_) (fun g y => ?_)
  ·rw [i]
   exact gc [] hβ (((va.f.f (by simp) (by simp [p1_y])).f).f) ln
  ·rw [congrFun (congrFun i c) g]
   refine sZ ?_ fun K hK => by simp [u]; exact hK
   apply sq
   refine cT ?_
   apply TrD.skip
   apply sq
   apply TrD.block
   refine sZ ?_
   apply sq
   obtain ⟨w, s, a⟩ := bindE a
   refine rk fun K hK => ?_
   simp [idx_inb l, idx_row l]
   refine cp (p1_h A _ s) ?_ (by simp) (by simp [p1_z])
   simp
   apply hK
   refine TrD.cond (b := w) (by simp) (fun e => ?_) (fun e => ?_)
   ·rw [if_pos e] at a
    refine sZ ?_ fun K hK => by simp [e]; exact hK
    cases a
    obtain rfl := t _ rfl
    cases h
    apply TrD.ret
    exact xD
   rw [iN e] at a
   apply TrD.skip
   refine rZ ?_ fun K hK => by simp [e]; exact hK
   cases a
   refine ToAny.mk () rfl ?_
   rw [i]
   exact gc [] hβ ((((va.f (by simp [f])).f (by simp [f]) (by simp [p1_y])).f (by simp [f])).f (by simp [f])) ln
  rw [congrFun (congrFun i _) g]
  refine sZ ?_ fun K hK => by simp [ilt_len p0.length]; exact hK
  apply sq
  refine cF ?_
  refine TrD.exit ?_
  try simp only [↓reduceIte, Nat.reduceEqDiff, Nat.zero_ne_one, Nat.one_ne_zero, OfNat.ofNat_ne_zero, OfNat.zero_ne_ofNat, OfNat.one_ne_ofNat, OfNat.ofNat_ne_one]
  refine ToAny.mk g y ?_
  rw [j]
  exact gC []
 subst hz
 try dsimp only at h
 rw [congrFun j m]
 refine sZ ?_
 cases h
 apply TrD.ret
 exact xD
instance i_slices_IndexFunc_VarType (p0 : (List GVarType)) (p1 : (GVarType → Option Bool)) {p1_f : FuncId} {p1_c : List D} [p1_i : CF1 (fun a0 => (.agg (rGVarType a0))) (fun r => (eB r)) p1 p1_f p1_c] : Ct (m_slices_IndexFunc_VarType p0 p1) fun res => CallsD Tryz.prog 0o00460 [(.slice 3 (List.map rGVarType p0)), .clos p1_f p1_c] (fun d => d = (eI res)) := ⟨c_slices_IndexFunc_VarType p0 p1_f p1_c p1_i.fr p1 p1_i.h⟩
end Go.Proofs.YtmkamncbkkahjaaGreat
set_option linter.unusedSimpArgs false
set_option linter.unusedVariables false
namespace Go.Proofs.YtmkamncbkkahjaaGreat
open Go Go.RowKit
set_option maxRecDepth 100000
set_option maxHeartbeats 20000000
theorem c_slices_ContainsFunc_VarType (p0 : (List GVarType)) (p1_f : FuncId) (p1_c : List D) (p1_x : ∀ d ∈ p1_c, Free d) (p1 : (GVarType → Option Bool)) (p1_h : ∀ a0 r, p1 a0 = some r → CallsD Tryz.prog p1_f ([(.agg (rGVarType a0))] ++ p1_c) (fun d => d = (eB r))) (res : Bool) (h : m_slices_ContainsFunc_VarType p0 p1 = some res) : CallsD Tryz.prog 0o00447 [(.slice 3 (List.map rGVarType p0)), .clos p1_f p1_c] (fun d => d = (eB res)) := by
 unfold m_slices_ContainsFunc_VarType at h
 have p1_y : Free (.clos p1_f p1_c) := free_clos p1_x
 have p1_z := eq_true p1_x
 refine CD Tryz.func295 [.tmp 4] fun β hβ => ?_
 refine sZ ?_
 apply sq
 obtain ⟨r1, hr1, h⟩ := bindE h
 refine rk fun K hK => ?_
 simp
 refine cp (c_slices_IndexFunc_VarType p0 p1_f p1_c p1_x p1 p1_h _ hr1) ?_ (by simp) (by simp [p1_y])
 simp
 apply hK
 cases h
 apply TrD.ret
 exact xD
instance i_slices_ContainsFunc_VarType (p0 : (List GVarType)) (p1 : (GVarType → Option Bool)) {p1_f : FuncId} {p1_c : List D} [p1_i : CF1 (fun a0 => (.agg (rGVarType a0))) (fun r => (eB r)) p1 p1_f p1_c] : Ct (m_slices_ContainsFunc_VarType p0 p1) fun res => CallsD Tryz.prog 0o00447 [(.slice 3 (List.map rGVarType p0)), .clos p1_f p1_c] (fun d => d = (eB res)) := ⟨c_slices_ContainsFunc_VarType p0 p1_f p1_c p1_i.fr p1 p1_i.h⟩
end Go.Proofs.YtmkamncbkkahjaaGreat
set_option linter.unusedSimpArgs false
set_option linter.unusedVariables false
namespace Go.Proofs.YtmkamncbkkahjaaGreat
open Go Go.RowKit
set_option maxRecDepth 100000
set_option maxHeartbeats 20000000
instance i_impl_sameVars : ∀ (p0 : (List GVarType)) (p1 : (List GVarType)), Ct (m_impl_sameVars p0 p1) fun res => CallsD Tryz.prog 0o00371 [(.slice 3 (List.map rGVarType p0)), (.slice 3 (List.map rGVarType p1))] (fun d => d = (eB res)) :=
 au Tryz.func249 m_impl_sameVars.eq_1 .z
end Go.Proofs.YtmkamncbkkahjaaGreat
set_option linter.unusedSimpArgs false
set_option linter.unusedVariables false
namespace Go.Proofs.YtmkamncbkkahjaaGreat
open Go Go.RowKit
set_option maxRecDepth 100000
set_option maxHeartbeats 20000000
instance i_impl_patternScan : ∀ (n : Nat) (p0 : (List GData)) (p1 : GType) (p2 : GPattern) (p3 : Int) (p4 : Int), Ct (m_impl_patternScan n p0 p1 p2 p3 p4) fun res => CallsH Tryz.prog 0o00272 [⟨1, [[(eI p4)]], 0, 0x0003⟩] [(.slice 2 (List.map rGData p0)), (.agg (rGType p1)), (.agg (rGPattern p2)), (eI p3), .ptr 1 0 0 0] (fun H d => H = [some ⟨1, [[(eI res.2.2)]], 0, 0x0003⟩] ∧ d = .tup [(.slice 3 (List.map rGVarType res.1)), (eB res.2.1)]) :=
 ar (au Tryz.func186 m_impl_patternScan.eq_2 (.o (.o (.o (.o (.o (.o (.o (.i .z (.i .z (.o (.i .z (.j 8 0 [0, 3, 4, 7, 12, 14] [0, 9, 9000] (fun (s23 : (List GVarType)) => [(14, .sl 3 9000 (s23).length)]) (fun s23 => [(9000, some ⟨3, (List.map rGVarType s23), 0, 0x0111⟩)]) (.i .z (.i .z (.pN 14 3 0x0111 .z))) (fun s23 => .ls 60 (.f [14] [0, 2] [0, 3, 4, 7, 12, 14, 60, 61, 62] [0, 1, 2] (fun (k247 : Nat) (s243 : Int × (List GVarType)) => [(14, .sl 3 2 (s243.2).length), (62, eI (k247 : Int))]) (fun k247 s243 => [(0, some ⟨1, [[(eI s243.1)]], 0, 0x0003⟩), (2, some ⟨3, (List.map rGVarType s243.2), 0, 0x0111⟩)]) (fun k247 s243 => .o (.j 12 0 [0, 3, 4, 7, 12, 14, 60, 61, 62] [0, 1, 2] (fun (s268 : Int × (List GVarType)) => [(14, .sl 3 2 (s268.2).length)]) (fun s268 => [(0, some ⟨1, [[(eI s268.1)]], 0, 0x0003⟩), (2, some ⟨3, (List.map rGVarType s268.2), 0, 0x0111⟩)]) (.g [0, 3, 4, 7, 12, 14, 15, 16, 60, 61, 62] [0, 1, 2, 35] [] [] (.o (.o (.d [0, 1, 2, 3, 4, 5, 6, 7, 8, 9, 10, 11, 12, 13, 14] [3] [] .z)))) (fun _ => .z))) (fun s251 => .ll 1 (.f [14] [0, 1] [14, 19, 99, 100, 101] [0, 1, 2] (fun (k372 : Nat) (s368 : (List Bool)) => [(101, eI (k372 : Int))]) (fun k372 s368 => [(2, some ⟨6, [(List.map cB s368)], 0, 0x0145⟩)]) (fun k372 s368 => .z) (fun s376 => .pF 1 .z))))))))))))))))))
end Go.Proofs.YtmkamncbkkahjaaGreat
set_option linter.unusedSimpArgs false
set_option linter.unusedVariables false
namespace Go.Proofs.YtmkamncbkkahjaaGreat
open Go Go.RowKit
set_option maxRecDepth 100000
set_option maxHeartbeats 20000000
instance i_impl_patternVars : ∀ (n : Nat) (p0 : (List GData)) (p1 : GType) (p2 : GPattern), Ct (m_impl_patternVars n p0 p1 p2) fun res => CallsD Tryz.prog 0o00170 [(.slice 2 (List.map rGData p0)), (.agg (rGType p1)), (.agg (rGPattern p2))] (fun d => d = .tup [(.slice 3 (List.map rGVarType res.1)), (eB res.2)]) :=
 au Tryz.func120 m_impl_patternVars.eq_1 .z
end Go.Proofs.YtmkamncbkkahjaaGreat
set_option linter.unusedSimpArgs false
set_option linter.unusedVariables false
namespace Go.Proofs.YtmkamncbkkahjaaGreat
open Go Go.RowKit
set_option maxRecDepth 100000
set_option maxHeartbeats 20000000
instance i_impl_guardOk : ∀ (p0 : GGuard) (p1 : (List GVarType)), Ct (m_impl_guardOk p0 p1) fun res => CallsD Tryz.prog 0o00206 [(.agg (rGGuard p0)), (.slice 3 (List.map rGVarType p1))] (fun d => d = (eB res)) :=
 au Tryz.func134 m_impl_guardOk.eq_1 .z
end Go.Proofs.YtmkamncbkkahjaaGreat
set_option linter.unusedSimpArgs false
set_option linter.unusedVariables false
namespace Go.Proofs.YtmkamncbkkahjaaGreat
open Go Go.RowKit
set_option maxRecDepth 100000
set_option maxHeartbeats 20000000
instance i_impl_clauseOk : ∀ (n : Nat) (p0 : (List GData)) (p1 : GType) (p2 : GClause), Ct (m_impl_clauseOk n p0 p1 p2) fun res => CallsD Tryz.prog 0o00103 [(.slice 2 (List.map rGData p0)), (.agg (rGType p1)), (.agg (rGClause p2))] (fun d => d = (eB res)) :=
 au Tryz.func67 m_impl_clauseOk.eq_1 .z
end Go.Proofs.YtmkamncbkkahjaaGreat
set_option linter.unusedSimpArgs false
set_option linter.unusedVariables false
namespace Go.Proofs.YtmkamncbkkahjaaGreat
open Go Go.RowKit
set_option maxRecDepth 100000
set_option maxHeartbeats 20000000
instance i_impl_ClausesValid_1 : ∀ (n : Nat) (p0 : GClause) (q0 : (List GData)) (q1 : GType), Ct (m_impl_ClausesValid_1 n p0 q0 q1) fun res => CallsD Tryz.prog 0o00150 [(.agg (rGClause p0)), .cptr [(.slice 2 (List.map rGData q0))], .cptr (rGType q1)] (fun d => d = (eB res)) :=
 au Tryz.func104 m_impl_ClausesValid_1.eq_1 .z
end Go.Proofs.YtmkamncbkkahjaaGreat
set_option linter.unusedSimpArgs false
set_option linter.unusedVariables false
namespace Go.Proofs.YtmkamncbkkahjaaGreat
open Go Go.RowKit
set_option maxRecDepth 100000
set_option maxHeartbeats 20000000
instance i_impl_NameValid : ∀ (n : Nat) (p0 : ByteArray), Ct (m_impl_NameValid n p0) fun res => CallsD Tryz.prog 0o00365 [(eS p0)] (fun d => d = (eB res)) :=
 au Tryz.func245 m_impl_NameValid.eq_1 (.o (.o (.o (.i .z (.o (.i .z (.i .z (.w [] [] [0, 3] [] (fun (s132 : Int) => [(3, eI s132)]) (fun s132 => []) (fun s132 => .z) (fun s140 => .z)))))))))
end Go.Proofs.YtmkamncbkkahjaaGreat
set_option linter.unusedSimpArgs false
set_option linter.unusedVariables false
namespace Go.Proofs.YtmkamncbkkahjaaGreat
open Go Go.RowKit
set_option maxRecDepth 100000
set_option maxHeartbeats 20000000
theorem c_slices_IndexFunc_Type (p0 : (List GType)) (p1_f : FuncId) (p1_c : List D) (p1_x : ∀ d ∈ p1_c, Free d) (p1 : (GType → Option Bool)) (p1_h : ∀ a0 r, p1 a0 = some r → CallsD Tryz.prog p1_f ([(.agg (rGType a0))] ++ p1_c) (fun d => d = (eB r))) (res : Int) (h : m_slices_IndexFunc_Type p0 p1 = some res) : CallsD Tryz.prog 0o00271 [(.slice 2 (List.map rGType p0)), .clos p1_f p1_c] (fun d => d = (eI res)) := by
 unfold m_slices_IndexFunc_Type at h
 have p1_y : Free (.clos p1_f p1_c) := free_clos p1_x
 have p1_z := eq_true p1_x
 refine CD Tryz.func185 [.tmp 4] fun β hβ => ?_
 refine sZ ?_
 apply sq
 refine sZ ?_
 obtain ⟨v, p, h⟩ := bindE h
 obtain ⟨n, j⟩ : ∃ S : Unit → St, S = fun m => ⟨(fun _ => .any), hOfO [], 0, 19⟩ := ⟨_, rfl⟩
 refine TrD.joinQ n (fun z => v = Ctl.brk z) (fun _ _ hg h => TrD.ghost hg h) ?_ (fun m hz => ?_)
 ·apply TrD.block
  obtain ⟨o, i⟩ : ∃ S : Nat → Unit → St, S = fun c g => ⟨(updD (updD (updD (updD (fun _ => .any) 0 (.slice 2 (List.map rGType p0))) 1 (.clos p1_f p1_c)) 7 (eI (lenZ p0.length))) 8 (eI (c : Int))), hOfO [], 0, 19⟩ := ⟨_, rfl⟩
  refine TrD.limS (sz := 2) (rows := List.map rGType p0) (seen_slot (d := .slice 2 (List.map rGType p0)) 0 (by simp)) (fun hlim => ?_)
  rw [List.length_map] at hlim
  refine TrD.forL o p hlim ?_ (fun c A g l C E u f F a t B => ?_) (fun g y => ?_)
  ·rw [i]
   exact gc [] hβ (((va.f.f (by simp) (by simp [p1_y])).f).f) ln
  ·rw [congrFun (congrFun i c) g]
   refine sZ ?_ fun K hK => by simp [u]; exact hK
   apply sq
   refine cT ?_
   apply TrD.skip
   apply sq
   apply TrD.block
   refine sZ ?_
   apply sq
   obtain ⟨w, s, a⟩ := bindE a
   refine rk fun K hK => ?_
   simp [idx_inb l, idx_row l]
   refine cp (p1_h A _ s) ?_ (by simp) (by simp [p1_z])
   simp
   apply hK
   refine TrD.cond (b := w) (by simp) (fun e => ?_) (fun e => ?_)
   ·rw [if_pos e] at a
    refine sZ ?_ fun K hK => by simp [e]; exact hK
    cases a
    obtain rfl := t _ rfl
    cases h
    apply TrD.ret
    exact xD
   rw [iN e] at a
   apply TrD.skip
   refine rZ ?_ fun K hK => by simp [e]; exact hK
   cases a
   refine ToAny.mk () rfl ?_
   rw [i]
   exact gc [] hβ ((((va.f (by simp [f])).f (by simp [f]) (by simp [p1_y])).f (by simp [f])).f (by simp [f])) ln
  rw [congrFun (congrFun i _) g]
  refine sZ ?_ fun K hK => by simp [ilt_len p0.length]; exact hK
  apply sq
  refine cF ?_
  refine TrD.exit ?_
  try simp only [↓reduceIte, Nat.reduceEqDiff, Nat.zero_ne_one, Nat.one_ne_zero, OfNat.ofNat_ne_zero, OfNat.zero_ne_ofNat, OfNat.one_ne_ofNat, OfNat.ofNat_ne_one]
  refine ToAny.mk g y ?_
  rw [j]
  exact gC []
 subst hz
 try dsimp only at h
 rw [congrFun j m]
 refine sZ ?_
 cases h
 apply TrD.ret
 exact xD
instance i_slices_IndexFunc_Type (p0 : (List GType)) (p1 : (GType → Option Bool)) {p1_f : FuncId} {p1_c : List D} [p1_i : CF1 (fun a0 => (.agg (rGType a0))) (fun r => (eB r)) p1 p1_f p1_c] : Ct (m_slices_IndexFunc_Type p0 p1) fun res => CallsD Tryz.prog 0o00271 [(.slice 2 (List.map rGType p0)), .clos p1_f p1_c] (fun d => d = (eI res)) := ⟨c_slices_IndexFunc_Type p0 p1_f p1_c p1_i.fr p1 p1_i.h⟩
end Go.Proofs.YtmkamncbkkahjaaGreat
set_option linter.unusedSimpArgs false
set_option linter.unusedVariables false
namespace Go.Proofs.YtmkamncbkkahjaaGreat
open Go Go.RowKit
set_option maxRecDepth 100000
set_option maxHeartbeats 20000000
theorem c_slices_ContainsFunc_Type (p0 : (List GType)) (p1_f : FuncId) (p1_c : List D) (p1_x : ∀ d ∈ p1_c, Free d) (p1 : (GType → Option Bool)) (p1_h : ∀ a0 r, p1 a0 = some r → CallsD Tryz.prog p1_f ([(.agg (rGType a0))] ++ p1_c) (fun d => d = (eB r))) (res : Bool) (h : m_slices_ContainsFunc_Type p0 p1 = some res) : CallsD Tryz.prog 0o00165 [(.slice 2 (List.map rGType p0)), .clos p1_f p1_c] (fun d => d = (eB res)) := by
 unfold m_slices_ContainsFunc_Type at h
 have p1_y : Free (.clos p1_f p1_c) := free_clos p1_x
 have p1_z := eq_true p1_x
 refine CD Tryz.func117 [.tmp 4] fun β hβ => ?_
 refine sZ ?_
 apply sq
 obtain ⟨r1, hr1, h⟩ := bindE h
 refine rk fun K hK => ?_
 simp
 refine cp (c_slices_IndexFunc_Type p0 p1_f p1_c p1_x p1 p1_h _ hr1) ?_ (by simp) (by simp [p1_y])
 simp
 apply hK
 cases h
 apply TrD.ret
 exact xD
instance i_slices_ContainsFunc_Type (p0 : (List GType)) (p1 : (GType → Option Bool)) {p1_f : FuncId} {p1_c : List D} [p1_i : CF1 (fun a0 => (.agg (rGType a0))) (fun r => (eB r)) p1 p1_f p1_c] : Ct (m_slices_ContainsFunc_Type p0 p1) fun res => CallsD Tryz.prog 0o00165 [(.slice 2 (List.map rGType p0)), .clos p1_f p1_c] (fun d => d = (eB res)) := ⟨c_slices_ContainsFunc_Type p0 p1_f p1_c p1_i.fr p1 p1_i.h⟩
end Go.Proofs.YtmkamncbkkahjaaGreat
set_option linter.unusedSimpArgs false
set_option linter.unusedVariables false
namespace Go.Proofs.YtmkamncbkkahjaaGreat
open Go Go.RowKit
set_option maxRecDepth 100000
set_option maxHeartbeats 20000000
instance i_impl_argOk : ∀ (p0 : (List GData)) (p1 : GType), Ct (m_impl_argOk p0 p1) fun res => CallsD Tryz.prog 0o00367 [(.slice 2 (List.map rGData p0)), (.agg (rGType p1))] (fun d => d = (eB res)) :=
 au Tryz.func247 m_impl_argOk.eq_1 .z
end Go.Proofs.YtmkamncbkkahjaaGreat
set_option linter.unusedSimpArgs false
set_option linter.unusedVariables false
namespace Go.Proofs.YtmkamncbkkahjaaGreat
open Go Go.RowKit
set_option maxRecDepth 100000
set_option maxHeartbeats 20000000
instance i_impl_ctorOk_1 : ∀ (p0 : GType) (q0 : (List GData)), Ct (m_impl_ctorOk_1 p0 q0) fun res => CallsD Tryz.prog 0o00366 [(.agg (rGType p0)), .cptr [(.slice 2 (List.map rGData q0))]] (fun d => d = (eB res)) :=
 au Tryz.func246 m_impl_ctorOk_1.eq_1 .z
end Go.Proofs.YtmkamncbkkahjaaGreat
set_option linter.unusedSimpArgs false
set_option linter.unusedVariables false
namespace Go.Proofs.YtmkamncbkkahjaaGreat
open Go Go.RowKit
set_option maxRecDepth 100000
set_option maxHeartbeats 20000000
instance i_impl_ctorOk : ∀ (n : Nat) (p0 : (List GData)) (p1 : GCtor), Ct (m_impl_ctorOk n p0 p1) fun res => CallsD Tryz.prog 0o00270 [(.slice 2 (List.map rGData p0)), (.agg (rGCtor p1))] (fun d => d = (eB res)) :=
 au Tryz.func184 m_impl_ctorOk.eq_1 .z
end Go.Proofs.YtmkamncbkkahjaaGreat
set_option linter.unusedSimpArgs false
set_option linter.unusedVariables false
namespace Go.Proofs.YtmkamncbkkahjaaGreat
open Go Go.RowKit
set_option maxRecDepth 100000
set_option maxHeartbeats 20000000
instance i_impl_WorldValid : ∀ (n : Nat) (p0 : (List GData)), Ct (m_impl_WorldValid n p0) fun res => CallsD Tryz.prog 0o00160 [(.slice 2 (List.map rGData p0))] (fun d => d = (eB res)) :=
 au Tryz.func112 m_impl_WorldValid.eq_1 (.o (.o (.i .z (.ls 0 (.f [] [] [0, 3, 4, 14, 15, 16] [32, 48] (fun (k1660 : Nat) (s1656 : (List (ByteArray × Bool)) × (List (ByteArray × Bool))) => [(16, eI (k1660 : Int))]) (fun k1660 s1656 => [(32, some ⟨0, List.map rSB s1656.1, 0, 0x00fd⟩), (48, some ⟨0, List.map rSB s1656.2, 0, 0x00fd⟩)]) (fun k1660 s1656 => .o (.i .z (.o (.i .z (.i .z (.i .z (.i .z (.o (.i .z (.ls 49 (.f [0, 3, 4, 14, 15, 16] [0, 1] [0, 3, 4, 14, 15, 16, 58, 59, 60] [0, 1] (fun (k1952 : Nat) (s1948 : (List (ByteArray × Bool))) => [(60, eI (k1952 : Int))]) (fun k1952 s1948 => [(0, some ⟨0, List.map rSB s1948, 0, 0x00fd⟩)]) (fun k1952 s1948 => .z) (fun s1956 => .z)))))))))))) (fun s1664 => .z))))))
end Go.Proofs.YtmkamncbkkahjaaGreat
set_option linter.unusedSimpArgs false
set_option linter.unusedVariables false
namespace Go.Proofs.YtmkamncbkkahjaaGreat
open Go Go.RowKit
set_option maxRecDepth 100000
set_option maxHeartbeats 20000000
instance i_impl_typeOk : ∀ (p0 : (List GData)) (p1 : GType), Ct (m_impl_typeOk p0 p1) fun res => CallsD Tryz.prog 0o00161 [(.slice 2 (List.map rGData p0)), (.agg (rGType p1))] (fun d => d = (eB res)) :=
 au Tryz.func113 m_impl_typeOk.eq_1 .z
end Go.Proofs.YtmkamncbkkahjaaGreat
set_option linter.unusedSimpArgs false
set_option linter.unusedVariables false
namespace Go.Proofs.YtmkamncbkkahjaaGreat
open Go Go.RowKit
set_option maxRecDepth 100000
set_option maxHeartbeats 20000000
instance i_impl_TypeValid : ∀ (n : Nat) (p0 : (List GData)) (p1 : GType), Ct (m_impl_TypeValid n p0 p1) fun res => CallsD Tryz.prog 0o00063 [(.slice 2 (List.map rGData p0)), (.agg (rGType p1))] (fun d => d = (eB res)) :=
 au Tryz.func51 m_impl_TypeValid.eq_1 .z
end Go.Proofs.YtmkamncbkkahjaaGreat
set_option linter.unusedSimpArgs false
set_option linter.unusedVariables false
namespace Go.Proofs.YtmkamncbkkahjaaGreat
open Go Go.RowKit
set_option maxRecDepth 100000
set_option maxHeartbeats 20000000
theorem c_slices_IndexFunc_Clause (p0 : (List GClause)) (p1_f : FuncId) (p1_c : List D) (p1_x : ∀ d ∈ p1_c, Free d) (p1 : (GClause → Option Bool)) (p1_h : ∀ a0 r, p1 a0 = some r → CallsD Tryz.prog p1_f ([(.agg (rGClause a0))] ++ p1_c) (fun d => d = (eB r))) (res : Int) (h : m_slices_IndexFunc_Clause p0 p1 = some res) : CallsD Tryz.prog 0o00261 [(.slice 9 (List.map rGClause p0)), .clos p1_f p1_c] (fun d => d = (eI res)) := by
 unfold m_slices_IndexFunc_Clause at h
 have p1_y : Free (.clos p1_f p1_c) := free_clos p1_x
 have p1_z := eq_true p1_x
 refine CD Tryz.func177 [.tmp 4] fun β hβ => ?_
 refine sZ ?_
 apply sq
 refine sZ ?_
 obtain ⟨v, p, h⟩ := bindE h
 obtain ⟨n, j⟩ : ∃ S : Unit → St, S = fun m => ⟨(fun _ => .any), hOfO [], 0, 19⟩ := ⟨_, rfl⟩
 refine TrD.joinQ n (fun z => v = Ctl.brk z) (fun _ _ hg h => TrD.ghost hg h) ?_ (fun m hz => ?_)
 ·apply TrD.block
  obtain ⟨o, i⟩ : ∃ S : Nat → Unit → St, S = fun c g => ⟨(updD (updD (updD (updD (fun _ => .any) 0 (.slice 9 (List.map rGClause p0))) 1 (.clos p1_f p1_c)) 7 (eI (lenZ p0.length))) 8 (eI (c : Int))), hOfO [], 0, 19⟩ := ⟨_, rfl⟩
  refine TrD.limS (sz := 9) (rows := List.map rGClause p0) (seen_slot (d := .slice 9 (List.map rGClause p0)) 0 (by simp)) (fun hlim => ?_)
  rw [List.length_map] at hlim
  refine TrD.forL o p hlim ?_ (fun c A g l C E u f F a t B => ?_) (fun g y => ?_)
  ·rw [i]
   exact gc [] hβ (((va.f.f (by simp) (by simp [p1_y])).f).f) ln
  ·rw [congrFun (congrFun i c) g]
   refine sZ ?_ fun K hK => by simp [u]; exact hK
   apply sq
   refine cT ?_
   apply TrD.skip
   apply sq
   apply TrD.block
   refine sZ ?_
   apply sq
   obtain ⟨w, s, a⟩ := bindE a
   refine rk fun K hK => ?_
   simp [idx_inb l, idx_row l]
   refine cp (p1_h A _ s) ?_ (by simp) (by simp [p1_z])
   simp
   apply hK
   refine TrD.cond (b := w) (by simp) (fun e => ?_) (fun e => ?_)
   ·rw [if_pos e] at a
    refine sZ ?_ fun K hK => by simp [e]; exact hK
    cases a
    obtain rfl := t _ rfl
    cases h
    apply TrD.ret
    exact xD
   rw [iN e] at a
   apply TrD.skip
   refine rZ ?_ fun K hK => by simp [e]; exact hK
   cases a
   refine ToAny.mk () rfl ?_
   rw [i]
   exact gc [] hβ ((((va.f (by simp [f])).f (by simp [f]) (by simp [p1_y])).f (by simp [f])).f (by simp [f])) ln
  rw [congrFun (congrFun i _) g]
  refine sZ ?_ fun K hK => by simp [ilt_len p0.length]; exact hK
  apply sq
  refine cF ?_
  refine TrD.exit ?_
  try simp only [↓reduceIte, Nat.reduceEqDiff, Nat.zero_ne_one, Nat.one_ne_zero, OfNat.ofNat_ne_zero, OfNat.zero_ne_ofNat, OfNat.one_ne_ofNat, OfNat.ofNat_ne_one]
  refine ToAny.mk g y ?_
  rw [j]
  exact gC []
 subst hz
 try dsimp only at h
 rw [congrFun j m]
 refine sZ ?_
 cases h
 apply TrD.ret
 exact xD
instance i_slices_IndexFunc_Clause (p0 : (List GClause)) (p1 : (GClause → Option Bool)) {p1_f : FuncId} {p1_c : List D} [p1_i : CF1 (fun a0 => (.agg (rGClause a0))) (fun r => (eB r)) p1 p1_f p1_c] : Ct (m_slices_IndexFunc_Clause p0 p1) fun res => CallsD Tryz.prog 0o00261 [(.slice 9 (List.map rGClause p0)), .clos p1_f p1_c] (fun d => d = (eI res)) := ⟨c_slices_IndexFunc_Clause p0 p1_f p1_c p1_i.fr p1 p1_i.h⟩
end Go.Proofs.YtmkamncbkkahjaaGreat
set_option linter.unusedSimpArgs false
set_option linter.unusedVariables false
namespace Go.Proofs.YtmkamncbkkahjaaGreat
open Go Go.RowKit
set_option maxRecDepth 100000
set_option maxHeartbeats 20000000
theorem c_slices_ContainsFunc_Clause (p0 : (List GClause)) (p1_f : FuncId) (p1_c : List D) (p1_x : ∀ d ∈ p1_c, Free d) (p1 : (GClause → Option Bool)) (p1_h : ∀ a0 r, p1 a0 = some r → CallsD Tryz.prog p1_f ([(.agg (rGClause a0))] ++ p1_c) (fun d => d = (eB r))) (res : Bool) (h : m_slices_ContainsFunc_Clause p0 p1 = some res) : CallsD Tryz.prog 0o00147 [(.slice 9 (List.map rGClause p0)), .clos p1_f p1_c] (fun d => d = (eB res)) := by
 unfold m_slices_ContainsFunc_Clause at h
 have p1_y : Free (.clos p1_f p1_c) := free_clos p1_x
 have p1_z := eq_true p1_x
 refine CD Tryz.func103 [.tmp 4] fun β hβ => ?_
 refine sZ ?_
 apply sq
 obtain ⟨r1, hr1, h⟩ := bindE h
 refine rk fun K hK => ?_
 simp
 refine cp (c_slices_IndexFunc_Clause p0 p1_f p1_c p1_x p1 p1_h _ hr1) ?_ (by simp) (by simp [p1_y])
 simp
 apply hK
 cases h
 apply TrD.ret
 exact xD
instance i_slices_ContainsFunc_Clause (p0 : (List GClause)) (p1 : (GClause → Option Bool)) {p1_f : FuncId} {p1_c : List D} [p1_i : CF1 (fun a0 => (.agg (rGClause a0))) (fun r => (eB r)) p1 p1_f p1_c] : Ct (m_slices_ContainsFunc_Clause p0 p1) fun res => CallsD Tryz.prog 0o00147 [(.slice 9 (List.map rGClause p0)), .clos p1_f p1_c] (fun d => d = (eB res)) := ⟨c_slices_ContainsFunc_Clause p0 p1_f p1_c p1_i.fr p1 p1_i.h⟩
end Go.Proofs.YtmkamncbkkahjaaGreat
