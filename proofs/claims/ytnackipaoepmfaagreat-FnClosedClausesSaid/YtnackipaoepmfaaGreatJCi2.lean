import Derived.Test.YtnackipaoepmfaaGreatJMir
import Derived.Test.YtnackipaoepmfaaGreatJAuto
import Derived.Test.YtnackipaoepmfaaGreatJCi1
import Derived.Test.YtnackipaoepmfaaGreatJCi0
set_option linter.unusedSimpArgs false
set_option linter.unusedVariables false
set_option linter.unusedSimpArgs false
set_option linter.unusedVariables false
namespace Go.Proofs.YtnackipaoepmfaaGreat
open Go Go.RowKit
set_option maxRecDepth 100000
set_option maxHeartbeats 20000000
instance i_impl_ownClauses : ∀ (n : Nat) (p0 : (List GClause)), Ct (m_impl_ownClauses n p0) fun res => CallsH Tryz.prog 0o00135 [] [(.slice 9 (List.map rGClause p0))] (fun H d => H = [some ⟨9, List.map rGClause res, 0, 0x0037⟩] ∧ d = .sl 9 0 res.length) :=
 au Tryz.func93 m_impl_ownClauses.eq_1 (.o (.o (.pN 3 9 0x0037 (.ls 0 (.f [3] [40] [3, 6, 7, 8] [40] (fun (k56 : Nat) (s52 : (List GClause)) => [(3, .sl 9 40 (s52).length), (8, eI (k56 : Int))]) (fun k56 s52 => [(40, some ⟨9, (List.map rGClause s52), 0, 0x0037⟩)]) (fun k56 s52 => .o (.g [3, 5, 6, 7, 8] [0, 25] [] [] (.o (.o (.d [0, 1, 2, 4, 5, 3, 6, 7, 8, 9] [1] [] .z))))) (fun s60 => .z))))))
end Go.Proofs.YtnackipaoepmfaaGreat
set_option linter.unusedSimpArgs false
set_option linter.unusedVariables false
namespace Go.Proofs.YtnackipaoepmfaaGreat
open Go Go.RowKit
set_option maxRecDepth 100000
set_option maxHeartbeats 20000000
instance i_impl_ClosedClauses : ∀ (n : Nat) (p0 : (List GData)) (p1 : GType) (p2 : (List GClause)), Ct (m_impl_ClosedClauses n p0 p1 p2) fun res => CallsD Tryz.prog 0o00037 [(.slice 2 (List.map rGData p0)), (.agg (rGType p1)), (.slice 9 (List.map rGClause p2))] (fun d => d = .tup [(.slice 9 (List.map rGClause res.1)), (eB res.2)]) :=
 au Tryz.func31 m_impl_ClosedClauses.eq_1 (.o (.o (.o (.o (.o (.i .z (.o (.j 5 0 [10] [121] (fun (s8 : (List GClause)) => [(10, .sl 9 121 (s8).length)]) (fun s8 => [(121, some ⟨9, (List.map rGClause s8), 0, 0x0037⟩)]) .z (fun _ => .z)))))))))
end Go.Proofs.YtnackipaoepmfaaGreat
