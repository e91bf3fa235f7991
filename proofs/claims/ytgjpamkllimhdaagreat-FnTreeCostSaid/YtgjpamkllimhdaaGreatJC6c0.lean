import Derived.Test.YtgjpamkllimhdaaGreatJC5b0
set_option linter.unusedSimpArgs false
set_option linter.unusedVariables false
namespace Go.Proofs.YtgjpamkllimhdaaGreat
open Go Go.RowKit
set_option maxRecDepth 100000
set_option maxHeartbeats 20000000
instance V5p:∀ (n:Nat) (p0:(List Q4)) (p1:Q6) (p2:Q3),Ct (Q99 n p0 p1 p2) fun res=>Z1 Tryz.prog 0o00166 [(.slice 2 (List.map W1 p0)),(.agg (W0 p1)),(.agg (X9 p2))] (fun d=>d=(eB res)):=
 au Tryz.func118 Q99.eq_1 (.o (.o (.o (.o (.g [0,4,5] [0,8] [] [] (.o (.i (.o (.o (.d [0,1,2,3,4,5,6,7,8,9,10,11,12,13,14,15] [0,1] [] .z))) (.d [0,1,2,3,4,5,6,7,8,9,10,11,12,13,14,15] [0,1] [] .z))))))))
instance X96:∀ (n:Nat) (p0:(List Q4)) (p1:Q6) (p2:(List Q3)),Ct (Q19 n p0 p1 p2) fun res=>Z1 Tryz.prog 0o00107 [(.slice 2 (List.map W1 p0)),(.agg (W0 p1)),(.slice 9 (List.map X9 p2))] (fun d=>d=(eB res)):=
 au Tryz.func71 Q19.eq_1 (.o (.o (.o (.o (.o (.i .z (.i .z (.ls 2 (.f [] [] [0,2,4,7] [0] (fun (k70:Nat) (s66:Unit)=>[(7,eI (k70:Int))]) (fun k70 s66=>[]) (fun k70 s66=>.o (.g [0,2,4,7] [0] [] [] (.o (.d [0,1,2,3,4,5,6,7] [0] [] .z)))) (fun s74=>.z))))))))))
instance X95:∀ (n:Nat) (p0:(List Q4)) (p1:Q6) (p2:(List Q3)),Ct (Q1w n p0 p1 p2) fun res=>Z1 Tryz.prog 0o00035 [(.slice 2 (List.map W1 p0)),(.agg (W0 p1)),(.slice 9 (List.map X9 p2))] (fun d=>d=.tup [(.slice 8 (List.map Q21 res.1)),(eB res.2)]):=
 au Tryz.func29 Q1w.eq_1 (.o (.o (.o (.o (.o (.i .z (.ls 2 (.f [2] [] [2,8] [] (fun (k58:Nat) (s54:Unit)=>[(8,eI (k58:Int))]) (fun k58 s54=>[]) (fun k58 s54=>.z) (fun s62=>.z)))))))))
end Go.Proofs.YtgjpamkllimhdaaGreat
