import Derived.Test.YtenmmbjgnlflnaaGreatJC3b0
import Derived.Test.YtenmmbjgnlflnaaGreatJC3c0
import Derived.Test.YtenmmbjgnlflnaaGreatJC3d0
set_option linter.unusedSimpArgs false
set_option linter.unusedVariables false
namespace Go.Proofs.YtenmmbjgnlflnaaGreat
open Go Go.RowKit
set_option maxRecDepth 100000
set_option maxHeartbeats 20000000
instance W3e:∀ (n:Nat) (p0:(List Q2)),Ct (Q8m n p0) fun res=>Q6 Tryz.prog 0o00323 [(.slice 2 (List.map Z5 p0))] (fun d=>d=(eS res)):=
 au Tryz.func211 Q8m.eq_1 (.o (.o (.ls 0 (.f [3] [] [0,3,4] [] (fun (k866:Nat) (s862:ByteArray)=>[(3,eS s862),(4,eI (k866:Int))]) (fun k866 s862=>[]) (fun k866 s862=>.b fun (x867:Q2)=>.j 5 1 [0,3,4] [] (fun (s956:ByteArray)=>[(3,eS s956)]) (fun _=>[]) .z (fun s956=>.o (.o (.le 0 1 3 Q54 x867.ctors x867 (.f [0,3,4] [] [0,3,4,5] [] (fun (k1014:Nat) (s1010:ByteArray)=>[(3,eS s1010),(5,eI (k1014:Int))]) (fun k1014 s1010=>[]) (fun k1014 s1010=>.o (.j 11 1 [0,3,4,5] [] (fun (s1030:ByteArray)=>[(3,eS s1030)]) (fun _=>[]) .z (fun _=>.z))) (fun s1018=>.z)))))) (fun s870=>.z)))))
instance X9e:∀ (n:Nat) (p0:(List Q2)) (p1:Q3) (p2:Q5),Ct (Q1s n p0 p1 p2) fun res=>Q6 Tryz.prog 0o00456 [(.slice 2 (List.map Z5 p0)),(.agg (Z6 p1)),(.agg (X7 p2))] (fun d=>d=(eB res)):=
 ar (au Tryz.func302 Q1s.eq_2 (.o (.o (.o (.o (.o (.o (.ls 14 (.f [0,4,5] [0,8] [0,4,5,7,8] [0,8] (fun (k65:Nat) (s61:Unit)=>[(8,eI (k65:Int))]) (fun k65 s61=>[]) (fun k65 s61=>.o (.g [0,4,5,7,8] [0,1] [] [] (.o (.o (.d [0,1,2,3,4,5,6,7,8,9,10,11] [1] [] .z))))) (fun s69=>.i (.g [0,4,5] [0,1] [] [] (.o (.o (.o (.o (.o (.d [0,1,2,3,4,5,7,8,9,10,11,12,6,13,14,15] [0,1] [] .z))))))) (.o (.ll 51 (.f [] [] [9,10] [51] (fun (k142:Nat) (s138:Unit)=>[(10,eI (k142:Int))]) (fun k142 s138=>[]) (fun k142 s138=>.z) (fun s146=>.z))))))))))))))
instance X64:∀ (n:Nat) (p0:Q30) (p1:Q3) (p2:Z4),Ct (Q1o n p0 p1 p2) fun res=>Q6 Tryz.prog 0o00133 [(.agg (Q53 p0)),(.agg (Z6 p1)),(.agg (Q00 p2))] (fun d=>d=(eB res)):=
 au Tryz.func91 Q1o.eq_1 .z
instance W8z:∀ (n:Nat) (p0:(List X1)) (p1:Q0),Ct (Q6u n p0 p1) fun res=>Q6 Tryz.prog 0o00146 [(.slice 9 (List.map V7 p0)),(.agg (Z2 p1))] (fun d=>d=.tup [(eI res.1),(.slice 4 (List.map V9 res.2))]):=
 au Tryz.func102 Q6u.eq_1 (.o (.o (.o (.ls 0 (.f [] [] [3,10,11,12] [0] (fun (k139:Nat) (s135:Unit)=>[(12,eI (k139:Int))]) (fun k139 s135=>[]) (fun k139 s135=>.o (.j 3 0 [3,10,11,12] [0] (fun (s153:Unit)=>[]) (fun _=>[]) .z (fun _=>.z))) (fun s143=>.z))))))
end Go.Proofs.YtenmmbjgnlflnaaGreat
