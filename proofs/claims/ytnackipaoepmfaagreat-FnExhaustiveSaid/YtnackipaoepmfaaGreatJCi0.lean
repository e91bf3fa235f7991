import Derived.Test.YtnackipaoepmfaaGreatJMir
import Derived.Test.YtnackipaoepmfaaGreatJAuto
import Derived.Test.YtnackipaoepmfaaGreatJAuI
set_option linter.unusedSimpArgs false
set_option linter.unusedVariables false
set_option linter.unusedSimpArgs false
set_option linter.unusedVariables false
namespace Go.Proofs.YtnackipaoepmfaaGreat
open Go Go.RowKit
set_option maxRecDepth 100000
set_option maxHeartbeats 20000000
instance i_slices_IndexFunc_Clause : ∀ (p0 : (List GClause)) (p1 : (GClause → Option Bool)) {p1_f : FuncId} {p1_c : List D} [p1_i : CF1 (fun a0 => (.agg (rGClause a0))) (fun r => (eB r)) p1 p1_f p1_c], Ct (m_slices_IndexFunc_Clause p0 p1) fun res => CallsD Tryz.prog 0o00360 [(.slice 9 (List.map rGClause p0)), .clos p1_f p1_c] (fun d => d = (eI res)) :=
 au Tryz.func240 m_slices_IndexFunc_Clause.eq_1 (.o (.o (.o (.o (.o (.ls 0 (.f [] [] [0, 1, 7, 8] [] (fun (k54 : Nat) (s50 : Unit) => [(8, eI (k54 : Int))]) (fun k54 s50 => []) (fun k54 s50 => .z) (fun s58 => .z))))))))
end Go.Proofs.YtnackipaoepmfaaGreat
set_option linter.unusedSimpArgs false
set_option linter.unusedVariables false
namespace Go.Proofs.YtnackipaoepmfaaGreat
open Go Go.RowKit
set_option maxRecDepth 100000
set_option maxHeartbeats 20000000
instance i_slices_ContainsFunc_Clause : ∀ (p0 : (List GClause)) (p1 : (GClause → Option Bool)) {p1_f : FuncId} {p1_c : List D} [p1_i : CF1 (fun a0 => (.agg (rGClause a0))) (fun r => (eB r)) p1 p1_f p1_c], Ct (m_slices_ContainsFunc_Clause p0 p1) fun res => CallsD Tryz.prog 0o00221 [(.slice 9 (List.map rGClause p0)), .clos p1_f p1_c] (fun d => d = (eB res)) :=
 au Tryz.func145 m_slices_ContainsFunc_Clause.eq_1 .z
end Go.Proofs.YtnackipaoepmfaaGreat
set_option linter.unusedSimpArgs false
set_option linter.unusedVariables false
namespace Go.Proofs.YtnackipaoepmfaaGreat
open Go Go.RowKit
set_option maxRecDepth 100000
set_option maxHeartbeats 20000000
instance i_impl_within : ∀ (p0 : Int) (p1 : Int) (p2 : Int), Ct (m_impl_within p0 p1 p2) fun res => CallsD Tryz.prog 0o00123 [(eI p0), (eI p1), (eI p2)] (fun d => d = (eB res)) :=
 au Tryz.func83 m_impl_within.eq_1 .z
end Go.Proofs.YtnackipaoepmfaaGreat
set_option linter.unusedSimpArgs false
set_option linter.unusedVariables false
namespace Go.Proofs.YtnackipaoepmfaaGreat
open Go Go.RowKit
set_option maxRecDepth 100000
set_option maxHeartbeats 20000000
instance i_slices_IndexFunc_Type : ∀ (p0 : (List GType)) (p1 : (GType → Option Bool)) {p1_f : FuncId} {p1_c : List D} [p1_i : CF1 (fun a0 => (.agg (rGType a0))) (fun r => (eB r)) p1 p1_f p1_c], Ct (m_slices_IndexFunc_Type p0 p1) fun res => CallsD Tryz.prog 0o00407 [(.slice 2 (List.map rGType p0)), .clos p1_f p1_c] (fun d => d = (eI res)) :=
 au Tryz.func263 m_slices_IndexFunc_Type.eq_1 (.o (.o (.o (.o (.o (.ls 0 (.f [] [] [0, 1, 7, 8] [] (fun (k54 : Nat) (s50 : Unit) => [(8, eI (k54 : Int))]) (fun k54 s50 => []) (fun k54 s50 => .z) (fun s58 => .z))))))))
end Go.Proofs.YtnackipaoepmfaaGreat
set_option linter.unusedSimpArgs false
set_option linter.unusedVariables false
namespace Go.Proofs.YtnackipaoepmfaaGreat
open Go Go.RowKit
set_option maxRecDepth 100000
set_option maxHeartbeats 20000000
instance i_slices_ContainsFunc_Type : ∀ (p0 : (List GType)) (p1 : (GType → Option Bool)) {p1_f : FuncId} {p1_c : List D} [p1_i : CF1 (fun a0 => (.agg (rGType a0))) (fun r => (eB r)) p1 p1_f p1_c], Ct (m_slices_ContainsFunc_Type p0 p1) fun res => CallsD Tryz.prog 0o00257 [(.slice 2 (List.map rGType p0)), .clos p1_f p1_c] (fun d => d = (eB res)) :=
 au Tryz.func175 m_slices_ContainsFunc_Type.eq_1 .z
end Go.Proofs.YtnackipaoepmfaaGreat
set_option linter.unusedSimpArgs false
set_option linter.unusedVariables false
namespace Go.Proofs.YtnackipaoepmfaaGreat
open Go Go.RowKit
set_option maxRecDepth 100000
set_option maxHeartbeats 20000000
instance i_impl_NameValid : ∀ (n : Nat) (p0 : ByteArray), Ct (m_impl_NameValid n p0) fun res => CallsD Tryz.prog 0o00476 [(eS p0)] (fun d => d = (eB res)) :=
 au Tryz.func318 m_impl_NameValid.eq_1 (.o (.o (.o (.i .z (.o (.i .z (.i .z (.w [] [] [0, 3] [] (fun (s132 : Int) => [(3, eI s132)]) (fun s132 => []) (fun s132 => .z) (fun s140 => .z)))))))))
end Go.Proofs.YtnackipaoepmfaaGreat
set_option linter.unusedSimpArgs false
set_option linter.unusedVariables false
namespace Go.Proofs.YtnackipaoepmfaaGreat
open Go Go.RowKit
set_option maxRecDepth 100000
set_option maxHeartbeats 20000000
instance i_impl_argOk : ∀ (p0 : (List GData)) (p1 : GType), Ct (m_impl_argOk p0 p1) fun res => CallsD Tryz.prog 0o00500 [(.slice 2 (List.map rGData p0)), (.agg (rGType p1))] (fun d => d = (eB res)) :=
 au Tryz.func320 m_impl_argOk.eq_1 .z
end Go.Proofs.YtnackipaoepmfaaGreat
set_option linter.unusedSimpArgs false
set_option linter.unusedVariables false
namespace Go.Proofs.YtnackipaoepmfaaGreat
open Go Go.RowKit
set_option maxRecDepth 100000
set_option maxHeartbeats 20000000
instance i_impl_ctorOk_1 : ∀ (p0 : GType) (q0 : (List GData)), Ct (m_impl_ctorOk_1 p0 q0) fun res => CallsD Tryz.prog 0o00477 [(.agg (rGType p0)), .cptr [(.slice 2 (List.map rGData q0))]] (fun d => d = (eB res)) :=
 au Tryz.func319 m_impl_ctorOk_1.eq_1 .z
end Go.Proofs.YtnackipaoepmfaaGreat
set_option linter.unusedSimpArgs false
set_option linter.unusedVariables false
namespace Go.Proofs.YtnackipaoepmfaaGreat
open Go Go.RowKit
set_option maxRecDepth 100000
set_option maxHeartbeats 20000000
instance i_impl_ctorOk : ∀ (n : Nat) (p0 : (List GData)) (p1 : GCtor), Ct (m_impl_ctorOk n p0 p1) fun res => CallsD Tryz.prog 0o00406 [(.slice 2 (List.map rGData p0)), (.agg (rGCtor p1))] (fun d => d = (eB res)) :=
 au Tryz.func262 m_impl_ctorOk.eq_1 .z
end Go.Proofs.YtnackipaoepmfaaGreat
set_option linter.unusedSimpArgs false
set_option linter.unusedVariables false
namespace Go.Proofs.YtnackipaoepmfaaGreat
open Go Go.RowKit
set_option maxRecDepth 100000
set_option maxHeartbeats 20000000
instance i_impl_WorldValid : ∀ (n : Nat) (p0 : (List GData)), Ct (m_impl_WorldValid n p0) fun res => CallsD Tryz.prog 0o00252 [(.slice 2 (List.map rGData p0))] (fun d => d = (eB res)) :=
 au Tryz.func170 m_impl_WorldValid.eq_1 (.o (.o (.i .z (.ls 0 (.f [] [] [0, 3, 4, 14, 15, 16] [32, 48] (fun (k1660 : Nat) (s1656 : (List (ByteArray × Bool)) × (List (ByteArray × Bool))) => [(16, eI (k1660 : Int))]) (fun k1660 s1656 => [(32, some ⟨0, List.map rSB s1656.1, 0, 0x0131⟩), (48, some ⟨0, List.map rSB s1656.2, 0, 0x0131⟩)]) (fun k1660 s1656 => .o (.i .z (.o (.i .z (.i .z (.i .z (.i .z (.o (.i .z (.ls 49 (.f [0, 3, 4, 14, 15, 16] [0, 1] [0, 3, 4, 14, 15, 16, 58, 59, 60] [0, 1] (fun (k1952 : Nat) (s1948 : (List (ByteArray × Bool))) => [(60, eI (k1952 : Int))]) (fun k1952 s1948 => [(0, some ⟨0, List.map rSB s1948, 0, 0x0131⟩)]) (fun k1952 s1948 => .z) (fun s1956 => .z)))))))))))) (fun s1664 => .z))))))
end Go.Proofs.YtnackipaoepmfaaGreat
set_option linter.unusedSimpArgs false
set_option linter.unusedVariables false
namespace Go.Proofs.YtnackipaoepmfaaGreat
open Go Go.RowKit
set_option maxRecDepth 100000
set_option maxHeartbeats 20000000
instance i_impl_typeOk : ∀ (p0 : (List GData)) (p1 : GType), Ct (m_impl_typeOk p0 p1) fun res => CallsD Tryz.prog 0o00253 [(.slice 2 (List.map rGData p0)), (.agg (rGType p1))] (fun d => d = (eB res)) :=
 au Tryz.func171 m_impl_typeOk.eq_1 .z
end Go.Proofs.YtnackipaoepmfaaGreat
set_option linter.unusedSimpArgs false
set_option linter.unusedVariables false
namespace Go.Proofs.YtnackipaoepmfaaGreat
open Go Go.RowKit
set_option maxRecDepth 100000
set_option maxHeartbeats 20000000
instance i_impl_TypeValid : ∀ (n : Nat) (p0 : (List GData)) (p1 : GType), Ct (m_impl_TypeValid n p0 p1) fun res => CallsD Tryz.prog 0o00122 [(.slice 2 (List.map rGData p0)), (.agg (rGType p1))] (fun d => d = (eB res)) :=
 au Tryz.func82 m_impl_TypeValid.eq_1 .z
end Go.Proofs.YtnackipaoepmfaaGreat
set_option linter.unusedSimpArgs false
set_option linter.unusedVariables false
namespace Go.Proofs.YtnackipaoepmfaaGreat
open Go Go.RowKit
set_option maxRecDepth 100000
set_option maxHeartbeats 20000000
instance i_slices_IndexFunc_VarType : ∀ (p0 : (List GVarType)) (p1 : (GVarType → Option Bool)) {p1_f : FuncId} {p1_c : List D} [p1_i : CF1 (fun a0 => (.agg (rGVarType a0))) (fun r => (eB r)) p1 p1_f p1_c], Ct (m_slices_IndexFunc_VarType p0 p1) fun res => CallsD Tryz.prog 0o00575 [(.slice 3 (List.map rGVarType p0)), .clos p1_f p1_c] (fun d => d = (eI res)) :=
 au Tryz.func381 m_slices_IndexFunc_VarType.eq_1 (.o (.o (.o (.o (.o (.ls 0 (.f [] [] [0, 1, 7, 8] [] (fun (k54 : Nat) (s50 : Unit) => [(8, eI (k54 : Int))]) (fun k54 s50 => []) (fun k54 s50 => .z) (fun s58 => .z))))))))
end Go.Proofs.YtnackipaoepmfaaGreat
set_option linter.unusedSimpArgs false
set_option linter.unusedVariables false
namespace Go.Proofs.YtnackipaoepmfaaGreat
open Go Go.RowKit
set_option maxRecDepth 100000
set_option maxHeartbeats 20000000
instance i_slices_ContainsFunc_VarType : ∀ (p0 : (List GVarType)) (p1 : (GVarType → Option Bool)) {p1_f : FuncId} {p1_c : List D} [p1_i : CF1 (fun a0 => (.agg (rGVarType a0))) (fun r => (eB r)) p1 p1_f p1_c], Ct (m_slices_ContainsFunc_VarType p0 p1) fun res => CallsD Tryz.prog 0o00560 [(.slice 3 (List.map rGVarType p0)), .clos p1_f p1_c] (fun d => d = (eB res)) :=
 au Tryz.func368 m_slices_ContainsFunc_VarType.eq_1 .z
end Go.Proofs.YtnackipaoepmfaaGreat
set_option linter.unusedSimpArgs false
set_option linter.unusedVariables false
namespace Go.Proofs.YtnackipaoepmfaaGreat
open Go Go.RowKit
set_option maxRecDepth 100000
set_option maxHeartbeats 20000000
instance i_slices_Index_VarType : ∀ (p0 : (List GVarType)) (p1 : GVarType), Ct (m_slices_Index_VarType p0 p1) fun res => CallsD Tryz.prog 0o00523 [(.slice 3 (List.map rGVarType p0)), (.agg (rGVarType p1))] (fun d => d = (eI res)) :=
 au Tryz.func339 m_slices_Index_VarType.eq_1 (.o (.o (.ls 0 (.f [] [] [0, 3, 7, 8] [0] (fun (k44 : Nat) (s40 : Unit) => [(8, eI (k44 : Int))]) (fun k44 s40 => []) (fun k44 s40 => .o (.g [0, 3, 5, 7, 8] [0] [] [] (.d [0, 1, 2, 3, 4, 5] [0] [] .z))) (fun s48 => .z)))))
end Go.Proofs.YtnackipaoepmfaaGreat
set_option linter.unusedSimpArgs false
set_option linter.unusedVariables false
namespace Go.Proofs.YtnackipaoepmfaaGreat
open Go Go.RowKit
set_option maxRecDepth 100000
set_option maxHeartbeats 20000000
instance i_slices_Contains_VarType : ∀ (p0 : (List GVarType)) (p1 : GVarType), Ct (m_slices_Contains_VarType p0 p1) fun res => CallsD Tryz.prog 0o00462 [(.slice 3 (List.map rGVarType p0)), (.agg (rGVarType p1))] (fun d => d = (eB res)) :=
 au Tryz.func306 m_slices_Contains_VarType.eq_1 .z
end Go.Proofs.YtnackipaoepmfaaGreat
set_option linter.unusedSimpArgs false
set_option linter.unusedVariables false
namespace Go.Proofs.YtnackipaoepmfaaGreat
open Go Go.RowKit
set_option maxRecDepth 100000
set_option maxHeartbeats 20000000
instance i_impl_sameVars_1 : ∀ (p0 : GVarType) (q0 : (List GVarType)), Ct (m_impl_sameVars_1 p0 q0) fun res => CallsD Tryz.prog 0o00561 [(.agg (rGVarType p0)), .cptr [(.slice 3 (List.map rGVarType q0))]] (fun d => d = (eB res)) :=
 au Tryz.func369 m_impl_sameVars_1.eq_1 .z
end Go.Proofs.YtnackipaoepmfaaGreat
set_option linter.unusedSimpArgs false
set_option linter.unusedVariables false
namespace Go.Proofs.YtnackipaoepmfaaGreat
open Go Go.RowKit
set_option maxRecDepth 100000
set_option maxHeartbeats 20000000
instance i_impl_sameVars : ∀ (p0 : (List GVarType)) (p1 : (List GVarType)), Ct (m_impl_sameVars p0 p1) fun res => CallsD Tryz.prog 0o00522 [(.slice 3 (List.map rGVarType p0)), (.slice 3 (List.map rGVarType p1))] (fun d => d = (eB res)) :=
 au Tryz.func338 m_impl_sameVars.eq_1 .z
end Go.Proofs.YtnackipaoepmfaaGreat
set_option linter.unusedSimpArgs false
set_option linter.unusedVariables false
namespace Go.Proofs.YtnackipaoepmfaaGreat
open Go Go.RowKit
set_option maxRecDepth 100000
set_option maxHeartbeats 20000000
instance i_impl_only : ∀ (p0 : GPattern) (p1 : Bool) (p2 : Bool) (p3 : Bool) (p4 : Int), Ct (m_impl_only p0 p1 p2 p3 p4) fun res => CallsD Tryz.prog 0o00554 [(.agg (rGPattern p0)), (eB p1), (eB p2), (eB p3), (eI p4)] (fun d => d = (eB res)) :=
 au Tryz.func364 m_impl_only.eq_1 .z
end Go.Proofs.YtnackipaoepmfaaGreat
set_option linter.unusedSimpArgs false
set_option linter.unusedVariables false
namespace Go.Proofs.YtnackipaoepmfaaGreat
open Go Go.RowKit
set_option maxRecDepth 100000
set_option maxHeartbeats 20000000
instance i_impl_isVar : ∀ (p0 : Int), Ct (m_impl_isVar p0) fun res => CallsD Tryz.prog 0o00555 [(eI p0)] (fun d => d = (eB res)) :=
 au Tryz.func365 m_impl_isVar.eq_1 .z
end Go.Proofs.YtnackipaoepmfaaGreat
set_option linter.unusedSimpArgs false
set_option linter.unusedVariables false
namespace Go.Proofs.YtnackipaoepmfaaGreat
open Go Go.RowKit
set_option maxRecDepth 100000
set_option maxHeartbeats 20000000
instance i_impl_ctorsOf : ∀ (p0 : (List GData)) (p1 : GType), Ct (m_impl_ctorsOf p0 p1) fun res => CallsD Tryz.prog 0o00254 [(.slice 2 (List.map rGData p0)), (.agg (rGType p1))] (fun d => d = (.slice 1 (List.map rI res))) :=
 au Tryz.func172 m_impl_ctorsOf.eq_1 (.o (.o (.j 2 0 [5] [9000] (fun (s116 : (List Int)) => [(5, .sl 1 9000 (s116).length)]) (fun s116 => [(9000, some ⟨1, (List.map rI s116), 0, 0x0003⟩)]) (.i (.o (.pN 5 1 0x0003 (.ls 16 (.f [5] [112] [3, 5, 16, 17, 18] [0, 112] (fun (k198 : Nat) (s194 : (List Int)) => [(5, .sl 1 112 (s194).length), (18, eI (k198 : Int))]) (fun k198 s194 => [(112, some ⟨1, (List.map rI s194), 0, 0x0003⟩)]) (fun k198 s194 => .o (.j 5 0 [3, 5, 16, 17, 18] [0, 1] (fun (s217 : (List Int)) => [(5, .sl 1 1 (s217).length)]) (fun s217 => [(1, some ⟨1, (List.map rI s217), 0, 0x0003⟩)]) .z (fun _ => .z))) (fun s202 => .z))))) (.pN 5 1 0x0003 .z)) (fun _ => .z))))
end Go.Proofs.YtnackipaoepmfaaGreat
set_option linter.unusedSimpArgs false
set_option linter.unusedVariables false
namespace Go.Proofs.YtnackipaoepmfaaGreat
open Go Go.RowKit
set_option maxRecDepth 100000
set_option maxHeartbeats 20000000
instance i_impl_argTypes : ∀ (p0 : (List GData)) (p1 : GType) (p2 : Int), Ct (m_impl_argTypes p0 p1 p2) fun res => CallsD Tryz.prog 0o00255 [(.slice 2 (List.map rGData p0)), (.agg (rGType p1)), (eI p2)] (fun d => d = (.slice 2 (List.map rGType res))) :=
 au Tryz.func173 m_impl_argTypes.eq_1 (.o (.o (.o (.o (.o (.j 3 0 [7, 8] [88] (fun (s4 : Int) => [(8, eI s4)]) (fun _ => []) .z (fun s4 => .pN 9 2 0x0019 (.ls 28 (.f [9] [41] [8, 9, 28, 29, 30] [41] (fun (k103 : Nat) (s99 : (List GType)) => [(9, .sl 2 41 (s99).length), (30, eI (k103 : Int))]) (fun k103 s99 => [(41, some ⟨2, (List.map rGType s99), 0, 0x0019⟩)]) (fun k103 s99 => .b fun (x104 : GType) => .j 9 0 [8, 9, 11, 28, 29, 30] [0, 25] (fun (s115 : Int) => []) (fun s115 => [(25, some ⟨2, [[(eI x104.data), (eI s115)]], 0, 0x0019⟩)]) .z (fun _ => .z)) (fun s107 => .z))))))))))
end Go.Proofs.YtnackipaoepmfaaGreat
set_option linter.unusedSimpArgs false
set_option linter.unusedVariables false
namespace Go.Proofs.YtnackipaoepmfaaGreat
open Go Go.RowKit
set_option maxRecDepth 100000
set_option maxHeartbeats 20000000
instance i_slices_Index_int : ∀ (p0 : (List Int)) (p1 : Int), Ct (m_slices_Index_int p0 p1) fun res => CallsD Tryz.prog 0o00321 [(.slice 1 (List.map rI p0)), (eI p1)] (fun d => d = (eI res)) :=
 au Tryz.func209 m_slices_Index_int.eq_1 (.o (.o (.ls 0 (.f [] [] [0, 1, 7, 8] [] (fun (k44 : Nat) (s40 : Unit) => [(8, eI (k44 : Int))]) (fun k44 s40 => []) (fun k44 s40 => .z) (fun s48 => .z)))))
end Go.Proofs.YtnackipaoepmfaaGreat
set_option linter.unusedSimpArgs false
set_option linter.unusedVariables false
namespace Go.Proofs.YtnackipaoepmfaaGreat
open Go Go.RowKit
set_option maxRecDepth 100000
set_option maxHeartbeats 20000000
instance i_slices_Contains_int : ∀ (p0 : (List Int)) (p1 : Int), Ct (m_slices_Contains_int p0 p1) fun res => CallsD Tryz.prog 0o00157 [(.slice 1 (List.map rI p0)), (eI p1)] (fun d => d = (eB res)) :=
 au Tryz.func111 m_slices_Contains_int.eq_1 .z
end Go.Proofs.YtnackipaoepmfaaGreat
set_option linter.unusedSimpArgs false
set_option linter.unusedVariables false
namespace Go.Proofs.YtnackipaoepmfaaGreat
open Go Go.RowKit
set_option maxRecDepth 100000
set_option maxHeartbeats 20000000
instance i_impl_shape : ∀ (p0 : (List GData)) (p1 : GType) (p2 : GPattern), Ct (m_impl_shape p0 p1 p2) fun res => CallsD Tryz.prog 0o00516 [(.slice 2 (List.map rGData p0)), (.agg (rGType p1)), (.agg (rGPattern p2))] (fun d => d = .tup [(.slice 2 (List.map rGType res.1)), (eB res.2)]) :=
 au Tryz.func334 m_impl_shape.eq_1 (.o (.o (.o (.i .z (.i .z (.i (.g [4, 5] [0, 8] [] [] (.i (.o (.i (.i (.i (.d [0, 1, 2, 3, 4, 5, 6, 7, 8, 9, 10, 11, 12, 13, 14, 15, 16, 17, 18, 19, 20, 21, 22, 23, 24, 25] [0, 1] [] .z) (.d [0, 1, 2, 3, 4, 5, 6, 7, 8, 9, 10, 11, 12, 13, 14, 15, 16, 17, 18, 19, 20, 21, 22, 23, 24, 25] [0, 1] [] .z)) (.d [0, 1, 2, 3, 4, 5, 6, 7, 8, 9, 10, 11, 12, 13, 14, 15, 16, 17, 18, 19, 20, 21, 22, 23, 24, 25] [0, 1] [] .z)) (.d [0, 1, 2, 3, 4, 5, 6, 7, 8, 9, 10, 11, 12, 13, 14, 15, 16, 17, 18, 19, 20, 21, 22, 23, 24, 25] [0, 1] [] .z))) (.d [0, 1, 2, 3, 4, 5, 6, 7, 8, 9, 10, 11, 12, 13, 14, 15, 16, 17, 18, 19, 20, 21, 22, 23, 24, 25] [0] [] .z))) (.i (.g [0, 4, 5] [0, 8] [] [] (.o (.o (.d [0, 1, 3, 4, 2, 5, 6] [0, 1] [] .z)))) (.i (.g [4, 5] [0, 8] [] [] (.o (.dz [0, 1, 3, 4, 2, 5, 6] [0, 1] [1048649] [] .z))) (.i (.g [4, 5] [0, 8] [] [] (.o (.i (.o (.dz [0, 2, 3, 4, 5, 6, 7, 8, 1, 9, 10] [0, 1] [1048655] [] .z)) (.dz [0, 2, 3, 4, 5, 6, 7, 8, 1, 9, 10] [0, 1] [1048655] [] .z)))) .z)))))))))
end Go.Proofs.YtnackipaoepmfaaGreat
set_option linter.unusedSimpArgs false
set_option linter.unusedVariables false
namespace Go.Proofs.YtnackipaoepmfaaGreat
open Go Go.RowKit
set_option maxRecDepth 100000
set_option maxHeartbeats 20000000
instance i_impl_patternScan : ∀ (n : Nat) (p0 : (List GData)) (p1 : GType) (p2 : GPattern) (p3 : Int) (p4 : Int), Ct (m_impl_patternScan n p0 p1 p2 p3 p4) fun res => CallsH Tryz.prog 0o00461 [⟨1, [[(eI p4)]], 0, 0x0003⟩] [(.slice 2 (List.map rGData p0)), (.agg (rGType p1)), (.agg (rGPattern p2)), (eI p3), .ptr 1 0 0 0] (fun H d => H = [some ⟨1, [[(eI res.2.2)]], 0, 0x0003⟩] ∧ d = .tup [(.slice 3 (List.map rGVarType res.1)), (eB res.2.1)]) :=
 ar (au Tryz.func305 m_impl_patternScan.eq_2 (.o (.o (.o (.o (.o (.o (.o (.i .z (.i .z (.o (.i .z (.j 8 0 [0, 3, 4, 7, 12, 14] [0, 9, 9000] (fun (s23 : (List GVarType)) => [(14, .sl 3 9000 (s23).length)]) (fun s23 => [(9000, some ⟨3, (List.map rGVarType s23), 0, 0x0164⟩)]) (.i .z (.i .z (.pN 14 3 0x0164 .z))) (fun s23 => .ls 60 (.f [14] [0, 2] [0, 3, 4, 7, 12, 14, 60, 61, 62] [0, 1, 2] (fun (k247 : Nat) (s243 : Int × (List GVarType)) => [(14, .sl 3 2 (s243.2).length), (62, eI (k247 : Int))]) (fun k247 s243 => [(0, some ⟨1, [[(eI s243.1)]], 0, 0x0003⟩), (2, some ⟨3, (List.map rGVarType s243.2), 0, 0x0164⟩)]) (fun k247 s243 => .o (.j 12 0 [0, 3, 4, 7, 12, 14, 60, 61, 62] [0, 1, 2] (fun (s268 : Int × (List GVarType)) => [(14, .sl 3 2 (s268.2).length)]) (fun s268 => [(0, some ⟨1, [[(eI s268.1)]], 0, 0x0003⟩), (2, some ⟨3, (List.map rGVarType s268.2), 0, 0x0164⟩)]) (.g [0, 3, 4, 7, 12, 14, 15, 16, 60, 61, 62] [0, 1, 2, 35] [] [] (.o (.o (.d [0, 1, 2, 3, 4, 5, 6, 7, 8, 9, 10, 11, 12, 13, 14] [3] [] .z)))) (fun _ => .z))) (fun s251 => .ll 1 (.f [14] [0, 1] [14, 19, 99, 100, 101] [0, 1, 2] (fun (k372 : Nat) (s368 : (List Bool)) => [(101, eI (k372 : Int))]) (fun k372 s368 => [(2, some ⟨6, [(List.map cB s368)], 0, 0x0183⟩)]) (fun k372 s368 => .z) (fun s376 => .pF 1 .z))))))))))))))))))
end Go.Proofs.YtnackipaoepmfaaGreat
set_option linter.unusedSimpArgs false
set_option linter.unusedVariables false
namespace Go.Proofs.YtnackipaoepmfaaGreat
open Go Go.RowKit
set_option maxRecDepth 100000
set_option maxHeartbeats 20000000
instance i_impl_patternVars : ∀ (n : Nat) (p0 : (List GData)) (p1 : GType) (p2 : GPattern), Ct (m_impl_patternVars n p0 p1 p2) fun res => CallsD Tryz.prog 0o00370 [(.slice 2 (List.map rGData p0)), (.agg (rGType p1)), (.agg (rGPattern p2))] (fun d => d = .tup [(.slice 3 (List.map rGVarType res.1)), (eB res.2)]) :=
 au Tryz.func248 m_impl_patternVars.eq_1 .z
end Go.Proofs.YtnackipaoepmfaaGreat
set_option linter.unusedSimpArgs false
set_option linter.unusedVariables false
namespace Go.Proofs.YtnackipaoepmfaaGreat
open Go Go.RowKit
set_option maxRecDepth 100000
set_option maxHeartbeats 20000000
instance i_impl_guardOk : ∀ (p0 : GGuard) (p1 : (List GVarType)), Ct (m_impl_guardOk p0 p1) fun res => CallsD Tryz.prog 0o00371 [(.agg (rGGuard p0)), (.slice 3 (List.map rGVarType p1))] (fun d => d = (eB res)) :=
 au Tryz.func249 m_impl_guardOk.eq_1 .z
end Go.Proofs.YtnackipaoepmfaaGreat
set_option linter.unusedSimpArgs false
set_option linter.unusedVariables false
namespace Go.Proofs.YtnackipaoepmfaaGreat
open Go Go.RowKit
set_option maxRecDepth 100000
set_option maxHeartbeats 20000000
instance i_impl_clauseOk : ∀ (n : Nat) (p0 : (List GData)) (p1 : GType) (p2 : GClause), Ct (m_impl_clauseOk n p0 p1 p2) fun res => CallsD Tryz.prog 0o00236 [(.slice 2 (List.map rGData p0)), (.agg (rGType p1)), (.agg (rGClause p2))] (fun d => d = (eB res)) :=
 au Tryz.func158 m_impl_clauseOk.eq_1 .z
end Go.Proofs.YtnackipaoepmfaaGreat
set_option linter.unusedSimpArgs false
set_option linter.unusedVariables false
namespace Go.Proofs.YtnackipaoepmfaaGreat
open Go Go.RowKit
set_option maxRecDepth 100000
set_option maxHeartbeats 20000000
instance i_impl_ClausesValid_1 : ∀ (n : Nat) (p0 : GClause) (q0 : (List GData)) (q1 : GType), Ct (m_impl_ClausesValid_1 n p0 q0 q1) fun res => CallsD Tryz.prog 0o00235 [(.agg (rGClause p0)), .cptr [(.slice 2 (List.map rGData q0))], .cptr (rGType q1)] (fun d => d = (eB res)) :=
 au Tryz.func157 m_impl_ClausesValid_1.eq_1 .z
end Go.Proofs.YtnackipaoepmfaaGreat
set_option linter.unusedSimpArgs false
set_option linter.unusedVariables false
namespace Go.Proofs.YtnackipaoepmfaaGreat
open Go Go.RowKit
set_option maxRecDepth 100000
set_option maxHeartbeats 20000000
instance i_impl_ClausesValid : ∀ (n : Nat) (p0 : (List GData)) (p1 : GType) (p2 : (List GClause)), Ct (m_impl_ClausesValid n p0 p1 p2) fun res => CallsD Tryz.prog 0o00111 [(.slice 2 (List.map rGData p0)), (.agg (rGType p1)), (.slice 9 (List.map rGClause p2))] (fun d => d = (eB res)) :=
 au Tryz.func73 m_impl_ClausesValid.eq_1 .z
end Go.Proofs.YtnackipaoepmfaaGreat
set_option linter.unusedSimpArgs false
set_option linter.unusedVariables false
namespace Go.Proofs.YtnackipaoepmfaaGreat
open Go Go.RowKit
set_option maxRecDepth 100000
set_option maxHeartbeats 20000000
instance i_impl_depths_of : ∀ (p0 : (List Int)) (p1 : GType), Ct (m_impl_depths_of p0 p1) fun res => CallsD Tryz.prog 0o00415 [.cptr (List.map cI p0), (.agg (rGType p1))] (fun d => d = (eI res)) :=
 au Tryz.func269 m_impl_depths_of.eq_1 (.o (.o (.i .z (.g [0, 3] [0] [] [] (.o (.d [0, 1, 2, 3, 4, 5, 6, 7, 8, 9] [0] [] .z))))))
end Go.Proofs.YtnackipaoepmfaaGreat
set_option linter.unusedSimpArgs false
set_option linter.unusedVariables false
namespace Go.Proofs.YtnackipaoepmfaaGreat
open Go Go.RowKit
set_option maxRecDepth 100000
set_option maxHeartbeats 20000000
instance i_impl_depths_ofCtor : ∀ (p0 : (List Int)) (p1 : (List GData)) (p2 : GType) (p3 : Int), Ct (m_impl_depths_ofCtor p0 p1 p2 p3) fun res => CallsD Tryz.prog 0o00414 [.cptr (List.map cI p0), (.slice 2 (List.map rGData p1)), (.agg (rGType p2)), (eI p3)] (fun d => d = (eI res)) :=
 au Tryz.func268 m_impl_depths_ofCtor.eq_1 (.o (.o (.o (.o (.o (.ls 16 (.f [9] [] [0, 9, 16, 17, 18] [] (fun (k68 : Nat) (s64 : Int) => [(9, eI s64), (18, eI (k68 : Int))]) (fun k68 s64 => []) (fun k68 s64 => .z) (fun s72 => .z))))))))
end Go.Proofs.YtnackipaoepmfaaGreat
set_option linter.unusedSimpArgs false
set_option linter.unusedVariables false
namespace Go.Proofs.YtnackipaoepmfaaGreat
open Go Go.RowKit
set_option maxRecDepth 100000
set_option maxHeartbeats 20000000
instance i_impl_depthsOf : ∀ (n : Nat) (p0 : (List GData)), Ct (m_impl_depthsOf n p0) fun res => CallsD Tryz.prog 0o00310 [(.slice 2 (List.map rGData p0))] (fun d => d = .cptr (List.map cI res)) :=
 au Tryz.func200 m_impl_depthsOf.eq_1 (.o (.o (.w [3] [16] [0, 3, 4] [16] (fun (s26777 : (List Int) × Bool) => [(4, eB s26777.2)]) (fun s26777 => [(16, some ⟨16, [(List.map cI s26777.1)], 0, 0x0137⟩)]) (fun s26777 => .i (.ls 0 (.f [0, 3, 4] [0] [0, 3, 4, 15, 16] [0] (fun (k30356 : Nat) (s30352 : (List Int) × Bool) => [(4, eB s30352.2), (16, eI (k30356 : Int))]) (fun k30356 s30352 => [(0, some ⟨16, [(List.map cI s30352.1)], 0, 0x0137⟩)]) (fun k30356 s30352 => .o (.w [0, 3, 4, 15, 16] [0] [0, 3, 4, 5, 6, 15, 16] [0] (fun (s31838 : (List Int) × Bool × Int) => [(4, eB s31838.2.1), (6, eI s31838.2.2)]) (fun s31838 => [(0, some ⟨16, [(List.map cI s31838.1)], 0, 0x0137⟩)]) (fun s31838 => .i (.o (.ls 28 (.f [0, 3, 4, 5, 6, 15, 16] [0] [0, 3, 4, 5, 6, 7, 15, 16, 28, 29, 30] [0, 41] (fun (k32093 : Nat) (s32089 : (List Int) × Bool) => [(4, eB s32089.2), (30, eI (k32093 : Int))]) (fun k32093 s32089 => [(0, some ⟨16, [(List.map cI s32089.1)], 0, 0x0137⟩)]) (fun k32093 s32089 => .o (.j 14 0 [0, 3, 4, 5, 6, 7, 15, 16, 28, 29, 30] [0, 1] (fun (s32117 : (List Int) × Bool) => [(4, eB s32117.2)]) (fun s32117 => [(0, some ⟨16, [(List.map cI s32117.1)], 0, 0x0137⟩)]) .z (fun _ => .z))) (fun s32097 => .z)))) .z) (fun s31846 => .z))) (fun s30360 => .z))) .z) (fun s26785 => .z))))
end Go.Proofs.YtnackipaoepmfaaGreat
set_option linter.unusedSimpArgs false
set_option linter.unusedVariables false
namespace Go.Proofs.YtnackipaoepmfaaGreat
open Go Go.RowKit
set_option maxRecDepth 100000
set_option maxHeartbeats 20000000
instance i_impl_newSpaces : ∀ (n : Nat) (p0 : (List GData)), Ct (m_impl_newSpaces n p0) fun res => CallsD Tryz.prog 0o00152 [(.slice 2 (List.map rGData p0))] (fun d => d = .cptr (rGspaces res)) :=
 au Tryz.func106 m_impl_newSpaces.eq_1 .z
end Go.Proofs.YtnackipaoepmfaaGreat
set_option linter.unusedSimpArgs false
set_option linter.unusedVariables false
namespace Go.Proofs.YtnackipaoepmfaaGreat
open Go Go.RowKit
set_option maxRecDepth 100000
set_option maxHeartbeats 20000000
instance i_impl_anyPattern : Ct (m_impl_anyPattern) fun res => CallsD Tryz.prog 0o00136 [] (fun d => d = (.agg (rGPattern res))) :=
 au Tryz.func94 m_impl_anyPattern.eq_1 .z
end Go.Proofs.YtnackipaoepmfaaGreat
set_option linter.unusedSimpArgs false
set_option linter.unusedVariables false
namespace Go.Proofs.YtnackipaoepmfaaGreat
open Go Go.RowKit
set_option maxRecDepth 100000
set_option maxHeartbeats 20000000
instance i_impl_BarePattern : ∀ (n : Nat) (p0 : GPattern), Ct (m_impl_BarePattern n p0) fun res => CallsD Tryz.prog 0o00305 [(.agg (rGPattern p0))] (fun d => d = (.agg (rGPattern res))) :=
 ar (au Tryz.func197 m_impl_BarePattern.eq_2 (.o (.o (.b fun (p0 : GPattern) => .j 1 0 [1, 2] [0, 8] (fun (s12 : Unit) => []) (fun _ => []) .z (fun s12 => .pC 0 5 6 0x0033 (.ls 27 (.f [1, 2] [0, 66, 1] [1, 2, 29, 30, 31] [0, 66, 1] (fun (k81 : Nat) (s77 : (List GPattern)) => [(31, eI (k81 : Int))]) (fun k81 s77 => [(1000000000, some ⟨6, [[(eI p0.op), (eI p0.ctor), (eI p0.n), (eI p0.m), (eI p0.var), (.sl 6 66 (s77).length)]], 0, 0x0033⟩), (66, some ⟨6, (List.map rGPattern s77), 0, 0x0033⟩)]) (fun k81 s77 => .o (.g [1, 2, 5, 29, 30, 31] [0, 1, 2, 27] [] [(1000000000, some ⟨6, [[(eI p0.op), (eI p0.ctor), (eI p0.n), (eI p0.m), (eI p0.var), (.sl 6 1 (s77).length)]], 0, 0x0033⟩)] (.o (.o (.d [0, 1, 2, 3, 4, 5, 6, 7] [0, 3] [41] .z))))) (fun s85 => .z))))))))
end Go.Proofs.YtnackipaoepmfaaGreat
set_option linter.unusedSimpArgs false
set_option linter.unusedVariables false
namespace Go.Proofs.YtnackipaoepmfaaGreat
open Go Go.RowKit
set_option maxRecDepth 100000
set_option maxHeartbeats 20000000
instance i_impl_countSplit : ∀ (n : Nat) (p0 : GPattern), Ct (m_impl_countSplit n p0) fun res => CallsD Tryz.prog 0o00306 [(.agg (rGPattern p0))] (fun d => d = (eI res)) :=
 ar (au Tryz.func198 m_impl_countSplit.eq_2 (.o (.o (.o (.j 2 0 [1, 3] [0] (fun (s2 : Int) => [(3, eI s2)]) (fun _ => []) .z (fun s2 => .ls 10 (.f [3] [] [1, 3, 10, 11, 12] [0] (fun (k86 : Nat) (s82 : Int) => [(3, eI s82), (12, eI (k86 : Int))]) (fun k86 s82 => []) (fun k86 s82 => .o (.j 6 0 [1, 3, 10, 11, 12] [0] (fun (s94 : Int) => [(3, eI s94)]) (fun _ => []) .z (fun _ => .z))) (fun s90 => .z))))))))
end Go.Proofs.YtnackipaoepmfaaGreat
set_option linter.unusedSimpArgs false
set_option linter.unusedVariables false
namespace Go.Proofs.YtnackipaoepmfaaGreat
open Go Go.RowKit
set_option maxRecDepth 100000
set_option maxHeartbeats 20000000
theorem c_slices_Clone_Pattern (p0 : (List GPattern)) (res : (List GPattern)) (h : m_slices_Clone_Pattern p0 = some res) : CallsH Tryz.prog 0o00334 [] [(.slice 6 (List.map rGPattern p0))] (fun H d => H = [some ⟨6, List.map rGPattern res, 0, 0x0033⟩] ∧ d = .sl 6 0 res.length) := by
 unfold m_slices_Clone_Pattern at h
 refine CH Tryz.func220 [.tmp 2] 0 fun β hβ => ?_
 refine sZ ?_
 apply sq
 refine sk fun K hK => ?_
 simp
 refine ⟨?_, fun hnil => ?_⟩
 ·apply hK
  refine cF ?_
  apply TrD.skip
  apply sq
  obtain ⟨x3, hx3, h⟩ := bindE h
  have hx3_r := (app_some hx3).2
  try simp only [List.length_nil, Nat.zero_add] at hx3_r
  obtain hhx3 := app_nil hx3
  subst hhx3
  refine rZ ?_ fun K hK => by simp [hx3_r]; exact hK
  cases h
  apply TrD.ret
  refine exitHG (σ' := ⟨(updD (fun _ => .any) 2 (.sl 6 0 (p0).length)), hOfO [some ⟨6, (List.map rGPattern p0), 0, 0x0033⟩], 1, 8⟩) ?_ ?_
  ·exact gC [40]
  dsimp only [resD]
  exact eA
 replace h : some ([]) = some res := by simp only [hnil] at h; simpa [app] using h
 apply hK
 refine cT ?_
 refine sZ ?_
 cases h
 apply TrD.ret
 refine exitHG (σ' := ⟨(updD (fun _ => .any) 2 (.sl 6 0 0)), hOfO [some ⟨6, (List.map rGPattern []), 0, 0x0033⟩], 1, 8⟩) ?_ ?_
 ·refine (Ghost.ownNil (s := 2) (by simp) 6 0x0033).trans ?_
  exact gC [32]
 dsimp only [resD]
 exact eA
instance i_slices_Clone_Pattern : ∀ (p0 : (List GPattern)), Ct (m_slices_Clone_Pattern p0) fun res => CallsH Tryz.prog 0o00334 [] [(.slice 6 (List.map rGPattern p0))] (fun H d => H = [some ⟨6, List.map rGPattern res, 0, 0x0033⟩] ∧ d = .sl 6 0 res.length) := fun p0 => ⟨c_slices_Clone_Pattern p0⟩
end Go.Proofs.YtnackipaoepmfaaGreat
set_option linter.unusedSimpArgs false
set_option linter.unusedVariables false
namespace Go.Proofs.YtnackipaoepmfaaGreat
open Go Go.RowKit
set_option maxRecDepth 100000
set_option maxHeartbeats 20000000
instance i_impl_split : ∀ (n : Nat) (p0 : GPattern), Ct (m_impl_split n p0) fun res => CallsH Tryz.prog 0o00307 [] [(.agg (rGPattern p0))] (fun H d => H = [some ⟨6, List.map rGPattern res, 0, 0x0033⟩] ∧ d = .sl 6 0 res.length) :=
 ar (au Tryz.func199 m_impl_split.eq_2 (.o (.o (.o (.i (.g [1] [0] [] [] (.o (.o (.o (.o (.o (.d [0, 1, 2, 3, 5, 6, 7, 8, 4, 9, 10, 11] [0] [] .z))))))) (.ls 29 (.f [4] [88] [4, 33, 34, 35] [88] (fun (k5018 : Nat) (s5014 : (List GPattern)) => [(4, .sl 6 88 (s5014).length), (35, eI (k5018 : Int))]) (fun k5018 s5014 => [(88, some ⟨6, (List.map rGPattern s5014), 0, 0x0033⟩)]) (fun k5018 s5014 => .o (.o (.pN 8 6 0x0033 (.ll 0 (.f [8, 33, 34, 35] [97] [7, 8, 33, 34, 35, 41, 42, 43] [50, 97, 0] (fun (k5936 : Nat) (s5932 : (List GPattern)) => [(8, .sl 6 97 (s5932).length), (43, eI (k5936 : Int))]) (fun k5936 s5932 => [(97, some ⟨6, (List.map rGPattern s5932), 0, 0x0033⟩)]) (fun k5936 s5932 => .o (.ll 0 (.f [7, 8, 33, 34, 35, 41, 42, 43] [0, 1, 2] [7, 8, 10, 33, 34, 35, 41, 42, 43, 47, 48, 49] [0, 1, 27, 2] (fun (k6006 : Nat) (s6002 : (List GPattern)) => [(8, .sl 6 1 (s6002).length), (49, eI (k6006 : Int))]) (fun k6006 s6002 => [(1, some ⟨6, (List.map rGPattern s6002), 0, 0x0033⟩)]) (fun k6006 s6002 => .o (.g [7, 8, 10, 12, 13, 33, 34, 35, 41, 42, 43, 47, 48, 49] [0, 1, 2, 28, 52, 3] [] [] (.o (.o (.dz [0, 1, 3, 2, 4, 5, 6, 7] [2, 3] [1048634] [] (.o (.pF 2097160 .z))))))) (fun s6010 => .z)))) (fun s5940 => .z)))))) (fun s5022 => .z))))))))
end Go.Proofs.YtnackipaoepmfaaGreat
set_option linter.unusedSimpArgs false
set_option linter.unusedVariables false
namespace Go.Proofs.YtnackipaoepmfaaGreat
open Go Go.RowKit
set_option maxRecDepth 100000
set_option maxHeartbeats 20000000
instance i_impl_parts : ∀ (n : Nat) (p0 : GPattern), Ct (m_impl_parts n p0) fun res => CallsD Tryz.prog 0o00150 [(.agg (rGPattern p0))] (fun d => d = .tup [(.slice 6 (List.map rGPattern res.1)), (eB res.2)]) :=
 au Tryz.func104 m_impl_parts.eq_1 .z
end Go.Proofs.YtnackipaoepmfaaGreat
set_option linter.unusedSimpArgs false
set_option linter.unusedVariables false
namespace Go.Proofs.YtnackipaoepmfaaGreat
open Go Go.RowKit
set_option maxRecDepth 100000
set_option maxHeartbeats 20000000
instance i_impl_covering : ∀ (n : Nat) (p0 : (List GClause)), Ct (m_impl_covering n p0) fun res => CallsD Tryz.prog 0o00151 [(.slice 9 (List.map rGClause p0))] (fun d => d = .tup [(.slice 6 (List.map rGPattern res.1)), (eB res.2)]) :=
 au Tryz.func105 m_impl_covering.eq_1 (.o (.o (.pN 4 6 0x0033 (.ls 0 (.f [4] [48] [4, 9, 10, 11] [48] (fun (k111 : Nat) (s107 : (List GPattern)) => [(4, .sl 6 48 (s107).length), (11, eI (k111 : Int))]) (fun k111 s107 => [(48, some ⟨6, (List.map rGPattern s107), 0, 0x0033⟩)]) (fun k111 s107 => .o (.j 4 0 [4, 9, 10, 11] [0] (fun (s122 : (List GPattern)) => [(4, .sl 6 0 (s122).length)]) (fun s122 => [(0, some ⟨6, (List.map rGPattern s122), 0, 0x0033⟩)]) .z (fun _ => .z))) (fun s115 => .z))))))
end Go.Proofs.YtnackipaoepmfaaGreat
set_option linter.unusedSimpArgs false
set_option linter.unusedVariables false
namespace Go.Proofs.YtnackipaoepmfaaGreat
open Go Go.RowKit
set_option maxRecDepth 100000
set_option maxHeartbeats 20000000
instance i_slices_IndexFunc_Pattern : ∀ (p0 : (List GPattern)) (p1 : (GPattern → Option Bool)) {p1_f : FuncId} {p1_c : List D} [p1_i : CF1 (fun a0 => (.agg (rGPattern a0))) (fun r => (eB r)) p1 p1_f p1_c], Ct (m_slices_IndexFunc_Pattern p0 p1) fun res => CallsD Tryz.prog 0o00423 [(.slice 6 (List.map rGPattern p0)), .clos p1_f p1_c] (fun d => d = (eI res)) :=
 au Tryz.func275 m_slices_IndexFunc_Pattern.eq_1 (.o (.o (.o (.o (.o (.ls 0 (.f [] [] [0, 1, 7, 8] [] (fun (k54 : Nat) (s50 : Unit) => [(8, eI (k54 : Int))]) (fun k54 s50 => []) (fun k54 s50 => .z) (fun s58 => .z))))))))
end Go.Proofs.YtnackipaoepmfaaGreat
set_option linter.unusedSimpArgs false
set_option linter.unusedVariables false
namespace Go.Proofs.YtnackipaoepmfaaGreat
open Go Go.RowKit
set_option maxRecDepth 100000
set_option maxHeartbeats 20000000
instance i_slices_DeleteFunc_Pattern : ∀ (n : Nat) (p0 : (List GPattern)) (p1 : (GPattern → Option Bool)) {p1_f : FuncId} {p1_c : List D} [p1_i : CF1 (fun a0 => (.agg (rGPattern a0))) (fun r => (eB r)) p1 p1_f p1_c], Ct (m_slices_DeleteFunc_Pattern n p0 p1) fun res => CallsH Tryz.prog 0o00416 [⟨6, List.map rGPattern p0, 0, 0x0033⟩] [.sl 6 0 p0.length, .clos p1_f p1_c] (fun H d => H = [none, some ⟨6, List.map rGPattern res, 0, 0x0033⟩] ∧ d = .sl 6 1 res.length) :=
 au Tryz.func270 m_slices_DeleteFunc_Pattern.eq_1 (.o (.o (.o (.o (.o (.o (.o (.i (.pM 4 .z) (.w [0, 5] [0] [0, 1, 5, 6] [0] (fun (s96 : (List GPattern) × Int × Int) => [(0, .sl 6 0 (s96.1).length), (5, eI s96.2.1), (6, eI s96.2.2)]) (fun s96 => [(0, some ⟨6, (List.map rGPattern s96.1), 0, 0x0033⟩)]) (fun s96 => .i (.j 7 0 [0, 1, 5, 6] [0] (fun (s112 : (List GPattern) × Int) => [(0, .sl 6 0 (s112.1).length), (5, eI s112.2)]) (fun s112 => [(0, some ⟨6, (List.map rGPattern s112.1), 0, 0x0033⟩)]) .z (fun _ => .z)) .z) (fun s104 => .o (.pM 4 .z)))))))))))
end Go.Proofs.YtnackipaoepmfaaGreat
set_option linter.unusedSimpArgs false
set_option linter.unusedVariables false
namespace Go.Proofs.YtnackipaoepmfaaGreat
open Go Go.RowKit
set_option maxRecDepth 100000
set_option maxHeartbeats 20000000
instance i_impl_kidTypes : ∀ (p0 : (List GData)) (p1 : GType) (p2 : GPattern), Ct (m_impl_kidTypes p0 p1 p2) fun res => CallsD Tryz.prog 0o00456 [(.slice 2 (List.map rGData p0)), (.agg (rGType p1)), (.agg (rGPattern p2))] (fun d => d = (.slice 2 (List.map rGType res))) :=
 au Tryz.func302 m_impl_kidTypes.eq_1 .z
end Go.Proofs.YtnackipaoepmfaaGreat
set_option linter.unusedSimpArgs false
set_option linter.unusedVariables false
namespace Go.Proofs.YtnackipaoepmfaaGreat
open Go Go.RowKit
set_option maxRecDepth 100000
set_option maxHeartbeats 20000000
instance i_impl_spaces_empty : ∀ (n : Nat) (p0 : Gspaces) (p1 : GType) (p2 : GPattern), Ct (m_impl_spaces_empty n p0 p1 p2) fun res => CallsD Tryz.prog 0o00361 [.cptr (rGspaces p0), (.agg (rGType p1)), (.agg (rGPattern p2))] (fun d => d = (eB res)) :=
 ar (au Tryz.func241 m_impl_spaces_empty.eq_2 (.o (.o (.o (.o (.o (.j 2 0 [0, 4, 5, 10, 11] [0, 8] (fun (s20 : Bool) => [(11, eB s20)]) (fun _ => []) .z (fun s20 => .i (.g [0, 4] [0] [] [] (.o (.d [0, 1, 2, 3, 4, 5, 6, 7] [0] [] .z))) (.i (.g [0, 4, 5] [0, 1] [] [] (.o (.o (.i (.o (.o (.d [0, 1, 2, 3, 4, 5, 6, 7, 8, 9, 10, 11, 12, 13, 14, 15, 16] [0, 1] [] .z))) (.d [0, 1, 2, 3, 4, 5, 6, 7, 8, 9, 10, 11, 12, 13, 14, 15, 16] [0, 1] [] .z))))) (.g [0, 4, 5] [0, 1] [] [] (.o (.d [0, 1, 2, 3, 4, 5, 8, 6, 7] [0, 1] [] (.ls 45 (.f [] [] [0, 5, 45, 46, 47] [1] (fun (k102 : Nat) (s98 : Unit) => [(47, eI (k102 : Int))]) (fun k102 s98 => []) (fun k102 s98 => .o (.g [0, 5, 7, 8, 45, 46, 47] [0, 33] [] [] (.o (.o (.d [0, 1, 2, 3, 4, 5, 6, 7] [0, 1] [] .z))))) (fun s106 => .z)))))))))))))))
end Go.Proofs.YtnackipaoepmfaaGreat
set_option linter.unusedSimpArgs false
set_option linter.unusedVariables false
namespace Go.Proofs.YtnackipaoepmfaaGreat
open Go Go.RowKit
set_option maxRecDepth 100000
set_option maxHeartbeats 20000000
instance i_impl_spaces_filled_1 : ∀ (n : Nat) (p0 : GPattern) (q0 : Gspaces) (q1 : GType), Ct (m_impl_spaces_filled_1 n p0 q0 q1) fun res => CallsD Tryz.prog 0o00417 [(.agg (rGPattern p0)), .cptr [(.cptr (rGspaces q0))], .cptr (rGType q1)] (fun d => d = (eB res)) :=
 au Tryz.func271 m_impl_spaces_filled_1.eq_1 .z
end Go.Proofs.YtnackipaoepmfaaGreat
set_option linter.unusedSimpArgs false
set_option linter.unusedVariables false
namespace Go.Proofs.YtnackipaoepmfaaGreat
open Go Go.RowKit
set_option maxRecDepth 100000
set_option maxHeartbeats 20000000
instance i_impl_spaces_filled : ∀ (n : Nat) (p0 : Gspaces) (p1 : GType) (p2 : (List GPattern)), Ct (m_impl_spaces_filled n p0 p1 p2) fun res => CallsD Tryz.prog 0o00311 [.cptr (rGspaces p0), (.agg (rGType p1)), (.slice 6 (List.map rGPattern p2))] (fun d => d = (.slice 6 (List.map rGPattern res))) :=
 au Tryz.func201 m_impl_spaces_filled.eq_1 .z
end Go.Proofs.YtnackipaoepmfaaGreat
set_option linter.unusedSimpArgs false
set_option linter.unusedVariables false
namespace Go.Proofs.YtnackipaoepmfaaGreat
open Go Go.RowKit
set_option maxRecDepth 100000
set_option maxHeartbeats 20000000
instance i_impl_ranges : ∀ (n : Nat) (p0 : (List Int)), Ct (m_impl_ranges n p0) fun res => CallsD Tryz.prog 0o00411 [(.slice 1 (List.map rI p0))] (fun d => d = (.slice 6 (List.map rGPattern res))) :=
 au Tryz.func265 m_impl_ranges.eq_1 (.o (.o (.pN 3 6 0x0033 (.w [3] [24] [0, 3, 4] [24] (fun (s81 : (List GPattern) × Int) => [(3, .sl 6 24 (s81.1).length), (4, eI s81.2)]) (fun s81 => [(24, some ⟨6, (List.map rGPattern s81.1), 0, 0x0033⟩)]) (fun s81 => .i (.j 5 0 [0, 3, 4] [0] (fun (s96 : (List GPattern)) => [(3, .sl 6 0 (s96).length)]) (fun s96 => [(0, some ⟨6, (List.map rGPattern s96), 0, 0x0033⟩)]) (.g [0, 3, 4] [0] [] [] (.o (.o (.d [0, 1, 2, 3, 4, 5, 6, 7, 8, 9] [] [] (.i (.g [0, 3, 4] [0] [] [] (.o (.d [0, 1, 2, 3, 4, 5, 6, 7, 8, 9, 10, 11, 12, 13] [] [] .z))) .z))))) (fun _ => .z)) .z) (fun s89 => .z)))))
end Go.Proofs.YtnackipaoepmfaaGreat
set_option linter.unusedSimpArgs false
set_option linter.unusedVariables false
namespace Go.Proofs.YtnackipaoepmfaaGreat
open Go Go.RowKit
set_option maxRecDepth 100000
set_option maxHeartbeats 20000000
instance i_impl_numbers : ∀ (p0 : GPattern), Ct (m_impl_numbers p0) fun res => CallsD Tryz.prog 0o00420 [(.agg (rGPattern p0))] (fun d => d = .tup [(eI res.1), (eI res.2)]) :=
 au Tryz.func272 m_impl_numbers.eq_1 (.o (.i .z (.g [1] [0] [] [] (.d [0, 1, 2, 3, 4, 5] [0] [] .z))))
end Go.Proofs.YtnackipaoepmfaaGreat
