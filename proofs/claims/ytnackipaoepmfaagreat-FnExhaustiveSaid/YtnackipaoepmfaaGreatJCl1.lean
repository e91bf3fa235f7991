import Derived.Test.YtnackipaoepmfaaGreatJMir
import Derived.Test.YtnackipaoepmfaaGreatJAuto
import Derived.Test.YtnackipaoepmfaaGreatJCs1
import Derived.Test.YtnackipaoepmfaaGreatJCi1
import Derived.Test.YtnackipaoepmfaaGreatJCi2
set_option linter.unusedSimpArgs false
set_option linter.unusedVariables false
set_option linter.unusedSimpArgs false
set_option linter.unusedVariables false
namespace Go.Proofs.YtnackipaoepmfaaGreat
open Go Go.RowKit
set_option maxRecDepth 100000
set_option maxHeartbeats 20000000
instance i_laws_FnExhaustive : ∀ (n : Nat) (p0 : (List Int)) (p1 : (List Int)), Ct (m_laws_FnExhaustive n p0 p1) fun res => CallsD Tryz.prog 0o00004 [(.slice 1 (List.map (rK .u8) p0)), (.slice 1 (List.map (rK .u8) p1))] (fun d => d = (eB res)) :=
 au Tryz.func4 m_laws_FnExhaustive.eq_1 (.o (.o (.o (.i .z (.i .z (.o (.o (.o (.i .z (.i .z (.i .z (.o (.ls 74 (.f [] [] [5, 6, 7, 12, 14] [120] (fun (k148 : Nat) (s144 : Unit) => [(14, eI (k148 : Int))]) (fun k148 s144 => []) (fun k148 s144 => .o (.g [5, 6, 7, 12, 14] [0] [] [] (.o (.d [0, 1, 2, 3, 4, 5, 6, 7, 8, 9, 10, 11, 12, 13, 14] [0] [] .z)))) (fun s152 => .z)))))))))))))))
theorem c_laws_FnExhaustive (n : Nat) (p0 : (List Int)) (p1 : (List Int)) : ∀ res, m_laws_FnExhaustive n p0 p1 = some res → CallsD Tryz.prog 0o00004 [(.slice 1 (List.map (rK .u8) p0)), (.slice 1 (List.map (rK .u8) p1))] (fun d => d = (eB res)) := (i_laws_FnExhaustive n p0 p1).pf
end Go.Proofs.YtnackipaoepmfaaGreat
set_option linter.unusedSimpArgs false
set_option linter.unusedVariables false
namespace Go.Proofs.YtnackipaoepmfaaGreat
open Go Go.RowKit
set_option maxRecDepth 100000
set_option maxHeartbeats 20000000
instance i_laws_FnClosedClauses : ∀ (n : Nat) (p0 : (List Int)) (p1 : (List Int)), Ct (m_laws_FnClosedClauses n p0 p1) fun res => CallsD Tryz.prog 0o00006 [(.slice 1 (List.map (rK .u8) p0)), (.slice 1 (List.map (rK .u8) p1))] (fun d => d = (eB res)) :=
 au Tryz.func6 m_laws_FnClosedClauses.eq_1 (.o (.o (.o (.i .z (.i .z (.o (.o (.o (.i .z (.o (.i .z (.i .z (.o (.o (.ls 87 (.f [12, 13] [] [5, 6, 7, 8, 12, 13, 14, 16] [120] (fun (k234 : Nat) (s230 : Unit) => [(16, eI (k234 : Int))]) (fun k234 s230 => []) (fun k234 s230 => .o (.j 13 0 [5, 6, 7, 8, 12, 13, 14, 16] [0] (fun (s249 : Unit) => []) (fun _ => []) (.g [5, 6, 7, 8, 12, 13, 14, 16] [0] [] [] (.o (.d [0, 1, 2, 3, 4, 5, 6, 7, 8, 9, 10, 11, 12, 13, 14] [0] [] (.g [5, 6, 7, 8, 12, 13, 14, 16, 17] [0] [] [] (.o (.d [0, 1, 2, 3, 4, 5, 6, 7, 8, 9, 10, 11, 12, 13, 14] [0] [] .z)))))) (fun _ => .z))) (fun s238 => .z)))))))))))))))))
theorem c_laws_FnClosedClauses (n : Nat) (p0 : (List Int)) (p1 : (List Int)) : ∀ res, m_laws_FnClosedClauses n p0 p1 = some res → CallsD Tryz.prog 0o00006 [(.slice 1 (List.map (rK .u8) p0)), (.slice 1 (List.map (rK .u8) p1))] (fun d => d = (eB res)) := (i_laws_FnClosedClauses n p0 p1).pf
end Go.Proofs.YtnackipaoepmfaaGreat
