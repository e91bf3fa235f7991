import Derived.Test.YtenmmbjgnlflnaaGreatBJC4b0
import Derived.Test.YtenmmbjgnlflnaaGreatBJC3a0
import Derived.Test.YtenmmbjgnlflnaaGreatBJC4d0
set_option linter.unusedSimpArgs false
set_option linter.unusedVariables false
namespace Go.Proofs.YtenmmbjgnlflnaaGreat
open Go Go.RowKit
set_option maxRecDepth 100000
set_option maxHeartbeats 20000000
instance W8s:∀ (n:Nat) (p0:(List Q4)) (p1:(List Z0)) (p2:(List Q5)) (p3:Q2),Ct (Q6j n p0 p1 p2 p3) fun res=>Q7 Tryz.prog 0o00230 [(.slice 2 (List.map Z8 p0)),(.slice 4 (List.map W8 p1)),(.slice 3 (List.map X6 p2)),(.agg (Z7 p3))] (fun d=>d=(eB res)):=
 au Tryz.func152 Q6j.eq_1 .z
instance W5y:∀ (n:Nat) (p0:(List Q4)) (p1:(List Z0)) (p2:(List Q5)) (p3:Q2) (p4:ByteArray),Ct (Q9a n p0 p1 p2 p3 p4) fun res=>Q7 Tryz.prog 0o00422 [(.slice 2 (List.map Z8 p0)),(.slice 4 (List.map W8 p1)),(.slice 3 (List.map X6 p2)),(.agg (Z7 p3)),(eS p4)] (fun d=>d=.tup [(.agg (V8 res.1)),(eB res.2)]):=
 au Tryz.func274 Q9a.eq_1 .z
instance W8n:∀ (n:Nat) (p0:(List Q4)) (p1:(List GFun)),Ct (Z0e n p0 p1) fun res=>Q7 Tryz.prog 0o00326 [(.slice 2 (List.map Z8 p0)),(.slice 6 (List.map Q0d p1))] (fun d=>d=(eS res)):=
 au Tryz.func214 Z0e.eq_1 (.o (.o (.o (.ls 1 (.f [5] [] [0,1,5,6] [] (fun (k136:Nat) (s132:ByteArray)=>[(5,eS s132),(6,eI (k136:Int))]) (fun k136 s132=>[]) (fun k136 s132=>.o (.j 5 1 [0,1,5,6] [] (fun (s153:ByteArray)=>[(5,eS s153)]) (fun _=>[]) .z (fun _=>.g [0,1,5,6] [] [] [] (.o (.o (.o (.d [0,1,2,4,5,6,7,3,8,9,10] [] [] .z))))))) (fun s140=>.z))))))
instance W2a:∀ (n:Nat) (p0:(List Q4)) (p1:Q2) (p2:Q0),Ct (Q1y n p0 p1 p2) fun res=>Q7 Tryz.prog 0o00245 [(.slice 2 (List.map Z8 p0)),(.agg (Z7 p1)),(.agg (Q3 p2))] (fun d=>d=.tup [(.slice 3 (List.map X6 res.1)),(eB res.2)]):=
 au Tryz.func165 Q1y.eq_1 .z
instance W98:∀ (n:Nat) (p0:(List Q4)) (p1:Q2) (p2:Z6),Ct (Q5a n p0 p1 p2) fun res=>Q7 Tryz.prog 0o00244 [(.slice 2 (List.map Z8 p0)),(.agg (Z7 p1)),(.agg (V6 p2))] (fun d=>d=(eB res)):=
 au Tryz.func164 Q5a.eq_1 .z
instance V8c:∀ (n:Nat) (p0:(List Q4)) (p1:(List Z0)) (p2:Q2) (p3:Z6),Ct (Z2d n p0 p1 p2 p3) fun res=>Q7 Tryz.prog 0o00132 [(.slice 2 (List.map Z8 p0)),(.slice 4 (List.map W8 p1)),(.agg (Z7 p2)),(.agg (V6 p3))] (fun d=>d=(.agg (Q8b res))):=
 au Tryz.func90 Z2d.eq_1 .z
end Go.Proofs.YtenmmbjgnlflnaaGreat
