import Derived.Test.YtbdkbdafhlcilaaGreatJC4c0
set_option linter.unusedSimpArgs false
set_option linter.unusedVariables false
namespace Go.Proofs.YtbdkbdafhlcilaaGreat
open Go Go.RowKit
set_option maxRecDepth 100000
set_option maxHeartbeats 20000000
instance W9w:∀ (n:Nat) (p0:(List Q3)) (p1:(List Int)) (p2:Q2) (p3:(List Q0)),Ct (Q5b n p0 p1 p2 p3) fun res=>Z1 Tryz.prog 0o00343 [(.slice 2 (List.map V0 p0)),(.slice 1 (List.map rI p1)),(.agg (X9 p2)),(.slice 6 (List.map Q1 p3))] (fun d=>d=.tup [(.slice 6 (List.map Q1 res.1)),(eB res.2)]):=
 au Tryz.func227 Q5b.eq_1 (.o (.o (.o (.o (.o (.ls 3 (.f [10] [24] [0,1,3,6,10,11] [0,24] (fun (k168:Nat) (s164:(List Q0))=>[(10,.sl 6 24 (s164).length),(11,eI (k168:Int))]) (fun k168 s164=>[(24,some ⟨6,(List.map Q1 s164),0,0x0064⟩)]) (fun k168 s164=>.o (.g [0,1,3,6,10,11] [0,1] [] [] (.o (.o (.o (.d [0,1,2,3,4,5,6,7,8,9,10,11,12,13,14,15,16] [0] [] .z)))))) (fun s172=>.z))))))))
end Go.Proofs.YtbdkbdafhlcilaaGreat
