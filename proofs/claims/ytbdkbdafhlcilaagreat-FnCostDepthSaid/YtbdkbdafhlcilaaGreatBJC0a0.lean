import Derived.Test.YtbdkbdafhlcilaaGreatBJMir
import Derived.Test.YtbdkbdafhlcilaaGreatBJAuto
set_option linter.unusedSimpArgs false
set_option linter.unusedVariables false
set_option linter.unusedSimpArgs false
set_option linter.unusedVariables false
namespace Go.Proofs.YtbdkbdafhlcilaaGreat
open Go Go.RowKit
set_option maxRecDepth 100000
set_option maxHeartbeats 20000000
instance V0z : ∀ (p0 : Q0) (p1 : Bool) (p2 : Bool) (p3 : Bool) (p4 : Int), Ct (Q3j p0 p1 p2 p3 p4) fun res => Z1 Tryz.prog 0o00445 [(.agg (Q8 p0)), (eB p1), (eB p2), (eB p3), (eI p4)] (fun d => d = (eB res)) :=
 au Tryz.func293 Q3j.eq_1 .z
end Go.Proofs.YtbdkbdafhlcilaaGreat
set_option linter.unusedSimpArgs false
set_option linter.unusedVariables false
namespace Go.Proofs.YtbdkbdafhlcilaaGreat
open Go Go.RowKit
set_option maxRecDepth 100000
set_option maxHeartbeats 20000000
instance W58 : ∀ (p0 : (List Q3)) (p1 : Q5), Ct (Q0w p0 p1) fun res => Z1 Tryz.prog 0o00252 [(.slice 2 (List.map X9 p0)), (.agg (X7 p1))] (fun d => d = (.slice 1 (List.map rI res))) :=
 au Tryz.func170 Q0w.eq_1 (.o (.o (.j 2 0 [5] [9000] (fun (s116 : (List Int)) => [(5, .sl 1 9000 (s116).length)]) (fun s116 => [(9000, some ⟨1, (List.map rI s116), 0, 0x0003⟩)]) (.i (.o (.pN 5 1 0x0003 (.ls 16 (.f [5] [112] [3, 5, 16, 17, 18] [0, 112] (fun (k198 : Nat) (s194 : (List Int)) => [(5, .sl 1 112 (s194).length), (18, eI (k198 : Int))]) (fun k198 s194 => [(112, some ⟨1, (List.map rI s194), 0, 0x0003⟩)]) (fun k198 s194 => .o (.j 5 0 [3, 5, 16, 17, 18] [0, 1] (fun (s217 : (List Int)) => [(5, .sl 1 1 (s217).length)]) (fun s217 => [(1, some ⟨1, (List.map rI s217), 0, 0x0003⟩)]) .z (fun _ => .z))) (fun s202 => .z))))) (.pN 5 1 0x0003 .z)) (fun _ => .z))))
end Go.Proofs.YtbdkbdafhlcilaaGreat
set_option linter.unusedSimpArgs false
set_option linter.unusedVariables false
namespace Go.Proofs.YtbdkbdafhlcilaaGreat
open Go Go.RowKit
set_option maxRecDepth 100000
set_option maxHeartbeats 20000000
instance X76 : ∀ (p0 : (List Int)) (p1 : Int), Ct (Q4g p0 p1) fun res => Z1 Tryz.prog 0o00257 [(.slice 1 (List.map rI p0)), (eI p1)] (fun d => d = (eI res)) :=
 au Tryz.func175 Q4g.eq_1 (.o (.o (.ls 0 (.f [] [] [0, 1, 7, 8] [] (fun (k44 : Nat) (s40 : Unit) => [(8, eI (k44 : Int))]) (fun k44 s40 => []) (fun k44 s40 => .z) (fun s48 => .z)))))
end Go.Proofs.YtbdkbdafhlcilaaGreat
set_option linter.unusedSimpArgs false
set_option linter.unusedVariables false
namespace Go.Proofs.YtbdkbdafhlcilaaGreat
open Go Go.RowKit
set_option maxRecDepth 100000
set_option maxHeartbeats 20000000
instance X97 : ∀ (n : Nat) (p0 : Q0), Ct (Q11 n p0) fun res => Z1 Tryz.prog 0o00173 [(.agg (Q8 p0))] (fun d => d = (eI res)) :=
 ar (au Tryz.func123 Q11.eq_2 (.o (.o (.o (.j 2 0 [1, 3] [0] (fun (s2 : Int) => [(3, eI s2)]) (fun _ => []) .z (fun s2 => .ls 10 (.f [3] [] [1, 3, 10, 11, 12] [0] (fun (k86 : Nat) (s82 : Int) => [(3, eI s82), (12, eI (k86 : Int))]) (fun k86 s82 => []) (fun k86 s82 => .o (.j 6 0 [1, 3, 10, 11, 12] [0] (fun (s94 : Int) => [(3, eI s94)]) (fun _ => []) .z (fun _ => .z))) (fun s90 => .z))))))))
end Go.Proofs.YtbdkbdafhlcilaaGreat
set_option linter.unusedSimpArgs false
set_option linter.unusedVariables false
namespace Go.Proofs.YtbdkbdafhlcilaaGreat
open Go Go.RowKit
set_option maxRecDepth 100000
set_option maxHeartbeats 20000000
instance X41 : ∀ (p1 : Int), Ct (Q1y p1) fun res => J8 Tryz.prog 0o00321 [] [.nil, (eI p1)] (fun H d => H = [some ⟨3, List.map Q15 res, 0, 0x006f⟩] ∧ d = .sl 3 0 res.length) :=
 au Tryz.func209 Q1y.eq_1 (.o (.i .z (.j 3 0 [0] [9000] (fun (s6 : Unit) => [(0, .sl 3 9000 0)]) (fun _ => [(9000, some ⟨3, (List.map Q15 []), 0, 0x006f⟩)]) (.i (.o (.o (.pS 144 0 Q15 ([] : List Z6) .z))) (.pN 0 3 0x006f .z)) (fun _ => .z))))
end Go.Proofs.YtbdkbdafhlcilaaGreat
set_option linter.unusedSimpArgs false
set_option linter.unusedVariables false
namespace Go.Proofs.YtbdkbdafhlcilaaGreat
open Go Go.RowKit
set_option maxRecDepth 100000
set_option maxHeartbeats 20000000
instance X95 : ∀ (p0 : Int), Ct (Q6m p0) fun res => Z1 Tryz.prog 0o00430 [(.val (.int .u64 p0))] (fun d => d = (eI res)) :=
 au Tryz.func280 Q6m.eq_1 (.o (.j 1 0 [0, 2] [] (fun (s2 : Int × Int) => [(0, .val (.int .u64 s2.1)), (2, eI s2.2)]) (fun _ => []) .z (fun s2 => .j 4 0 [0, 2] [] (fun (s7 : Int × Int) => [(0, .val (.int .u64 s7.1)), (2, eI s7.2)]) (fun _ => []) .z (fun s7 => .j 7 0 [0, 2] [] (fun (s12 : Int × Int) => [(0, .val (.int .u64 s12.1)), (2, eI s12.2)]) (fun _ => []) .z (fun _ => .z)))))
end Go.Proofs.YtbdkbdafhlcilaaGreat
set_option linter.unusedSimpArgs false
set_option linter.unusedVariables false
namespace Go.Proofs.YtbdkbdafhlcilaaGreat
open Go Go.RowKit
set_option maxRecDepth 100000
set_option maxHeartbeats 20000000
instance X55 : ∀ (p0 : J7) (q0 : Q2q), Ct (Q2k p0 q0) fun res => Z1 Tryz.prog 0o00277 [(.agg (Q5p p0)), .cptr (Q74 q0)] (fun d => d = (eB res)) :=
 au Tryz.func191 Q2k.eq_1 .z
end Go.Proofs.YtbdkbdafhlcilaaGreat
set_option linter.unusedSimpArgs false
set_option linter.unusedVariables false
namespace Go.Proofs.YtbdkbdafhlcilaaGreat
open Go Go.RowKit
set_option maxRecDepth 100000
set_option maxHeartbeats 20000000
instance Z8a : ∀ (p0 : (List Z0)) (p1 : (Z0 → Option Bool)) {p1_f : FuncId} {p1_c : List D} [p1_i : CF1 (fun a0 => (.agg (J1 a0))) (fun r => (eB r)) p1 p1_f p1_c], Ct (Q0v p0 p1) fun res => Z1 Tryz.prog 0o00217 [(.slice 9 (List.map J1 p0)), .clos p1_f p1_c] (fun d => d = (eI res)) :=
 au Tryz.func143 Q0v.eq_1 (.o (.o (.o (.o (.o (.ls 0 (.f [] [] [0, 1, 7, 8] [] (fun (k54 : Nat) (s50 : Unit) => [(8, eI (k54 : Int))]) (fun k54 s50 => []) (fun k54 s50 => .z) (fun s58 => .z))))))))
end Go.Proofs.YtbdkbdafhlcilaaGreat
set_option linter.unusedSimpArgs false
set_option linter.unusedVariables false
namespace Go.Proofs.YtbdkbdafhlcilaaGreat
open Go Go.RowKit
set_option maxRecDepth 100000
set_option maxHeartbeats 20000000
instance W76 : ∀ (p0 : Q5), Ct (Q98 p0) fun res => Z1 Tryz.prog 0o00266 [(.agg (X7 p0))] (fun d => d = (eI res)) :=
 au Tryz.func182 Q98.eq_1 .z
end Go.Proofs.YtbdkbdafhlcilaaGreat
set_option linter.unusedSimpArgs false
set_option linter.unusedVariables false
namespace Go.Proofs.YtbdkbdafhlcilaaGreat
open Go Go.RowKit
set_option maxRecDepth 100000
set_option maxHeartbeats 20000000
instance W6o : ∀ (p0 : (List Int)) (p1 : Int), Ct (Q62 p0 p1) fun res => Z1 Tryz.prog 0o00377 [(.slice 1 (List.map rI p0)), (eI p1)] (fun d => d = (.slice 1 (List.map rI res))) :=
 au Tryz.func255 Q62.eq_1 .z
end Go.Proofs.YtbdkbdafhlcilaaGreat
set_option linter.unusedSimpArgs false
set_option linter.unusedVariables false
namespace Go.Proofs.YtbdkbdafhlcilaaGreat
open Go Go.RowKit
set_option maxRecDepth 100000
set_option maxHeartbeats 20000000
instance W4p : ∀ (n : Nat) (p0 : Q0) (p1 : Int), Ct (Q3e n p0 p1) fun res => Z1 Tryz.prog 0o00335 [(.agg (Q8 p0)), (eI p1)] (fun d => d = (eI res)) :=
 ar (au Tryz.func221 Q3e.eq_2 (.o (.o (.b fun (p0 : Q0) => .o (.lc 0 5 6 Q8 p0.kids (.f [5] [] [1, 2, 5, 6] [0] (fun (k80 : Nat) (s76 : Int) => [(5, eI s76), (6, eI (k80 : Int))]) (fun k80 s76 => []) (fun k80 s76 => .z) (fun s84 => .z)))))))
end Go.Proofs.YtbdkbdafhlcilaaGreat
set_option linter.unusedSimpArgs false
set_option linter.unusedVariables false
namespace Go.Proofs.YtbdkbdafhlcilaaGreat
open Go Go.RowKit
set_option maxRecDepth 100000
set_option maxHeartbeats 20000000
instance W99 : ∀ (p0 : Int) (p1 : Q5), Ct (Q8e p0 p1) fun res => Z1 Tryz.prog 0o00361 [(eI p0), (.agg (X7 p1))] (fun d => d = (eB res)) :=
 au Tryz.func241 Q8e.eq_1 .z
end Go.Proofs.YtbdkbdafhlcilaaGreat
set_option linter.unusedSimpArgs false
set_option linter.unusedVariables false
namespace Go.Proofs.YtbdkbdafhlcilaaGreat
open Go Go.RowKit
set_option maxRecDepth 100000
set_option maxHeartbeats 20000000
instance W7e : ∀ (n : Nat) (p0 : ByteArray) (p1 : Int), Ct (Q32 n p0 p1) fun res => Z1 Tryz.prog 0o00412 [(eS p0), (.val (.int .u8 p1))] (fun d => d = (.slice 1 (List.map rS res))) :=
 au Tryz.func266 Q32.eq_1 (.o (.o (.o (.w [5] [8] [0, 1, 5, 6, 7] [8] (fun (s203 : (List ByteArray) × Int × Int) => [(5, .sl 1 8 (s203.1).length), (6, eI s203.2.1), (7, eI s203.2.2)]) (fun s203 => [(8, some ⟨1, (List.map rS s203.1), 0, 0x0009⟩)]) (fun s203 => .i (.j 6 0 [0, 1, 5, 6, 7] [0] (fun (s230 : (List ByteArray) × Int) => [(5, .sl 1 0 (s230.1).length), (6, eI s230.2)]) (fun s230 => [(0, some ⟨1, (List.map rS s230.1), 0, 0x0009⟩)]) .z (fun _ => .z)) .z) (fun s211 => .z)))))
end Go.Proofs.YtbdkbdafhlcilaaGreat
set_option linter.unusedSimpArgs false
set_option linter.unusedVariables false
namespace Go.Proofs.YtbdkbdafhlcilaaGreat
open Go Go.RowKit
set_option maxRecDepth 100000
set_option maxHeartbeats 20000000
instance W4w : Ct (Q4e) fun res => Z1 Tryz.prog 0o00347 [] (fun d => d = (.slice 1 (List.map rS res))) :=
 au Tryz.func231 Q4e.eq_1 .z
end Go.Proofs.YtbdkbdafhlcilaaGreat
