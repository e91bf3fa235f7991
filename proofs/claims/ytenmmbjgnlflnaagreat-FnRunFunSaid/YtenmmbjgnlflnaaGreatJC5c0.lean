import Derived.Test.YtenmmbjgnlflnaaGreatJC4b0
import Derived.Test.YtenmmbjgnlflnaaGreatJC3a0
import Derived.Test.YtenmmbjgnlflnaaGreatJC4d0
set_option linter.unusedSimpArgs false
set_option linter.unusedVariables false
namespace Go.Proofs.YtenmmbjgnlflnaaGreat
open Go Go.RowKit
set_option maxRecDepth 100000
set_option maxHeartbeats 20000000
instance X9o:∀ (n:Nat) (p0:(List Q2)) (p1:(List Q8)) (p2:(List Q1)) (p3:Q3),Ct (Q77 n p0 p1 p2 p3) fun res=>Q6 Tryz.prog 0o00230 [(.slice 2 (List.map Z5 p0)),(.slice 4 (List.map W1 p1)),(.slice 3 (List.map Z8 p2)),(.agg (Z6 p3))] (fun d=>d=(eB res)):=
 au Tryz.func152 Q77.eq_1 .z
instance X7b:∀ (n:Nat) (p0:(List Q2)) (p1:(List Q8)) (p2:(List Q1)) (p3:Q3) (p4:ByteArray),Ct (Q67 n p0 p1 p2 p3 p4) fun res=>Q6 Tryz.prog 0o00422 [(.slice 2 (List.map Z5 p0)),(.slice 4 (List.map W1 p1)),(.slice 3 (List.map Z8 p2)),(.agg (Z6 p3)),(eS p4)] (fun d=>d=.tup [(.agg (Q00 res.1)),(eB res.2)]):=
 au Tryz.func274 Q67.eq_1 .z
instance X9k:∀ (n:Nat) (p0:(List Q2)) (p1:(List GFun)),Ct (Q75 n p0 p1) fun res=>Q6 Tryz.prog 0o00326 [(.slice 2 (List.map Z5 p0)),(.slice 6 (List.map J1 p1))] (fun d=>d=(eS res)):=
 au Tryz.func214 Q75.eq_1 (.o (.o (.o (.ls 1 (.f [5] [] [0,1,5,6] [] (fun (k136:Nat) (s132:ByteArray)=>[(5,eS s132),(6,eI (k136:Int))]) (fun k136 s132=>[]) (fun k136 s132=>.o (.j 5 1 [0,1,5,6] [] (fun (s153:ByteArray)=>[(5,eS s153)]) (fun _=>[]) .z (fun _=>.g [0,1,5,6] [] [] [] (.o (.o (.o (.d [0,1,2,4,5,6,7,3,8,9,10] [] [] .z))))))) (fun s140=>.z))))))
instance X7h:∀ (n:Nat) (p0:(List Q2)) (p1:Q3),Ct (Q27 n p0 p1) fun res=>Q6 Tryz.prog 0o00102 [(.slice 2 (List.map Z5 p0)),(.agg (Z6 p1))] (fun d=>d=(eB res)):=
 au Tryz.func66 Q27.eq_1 .z
end Go.Proofs.YtenmmbjgnlflnaaGreat
