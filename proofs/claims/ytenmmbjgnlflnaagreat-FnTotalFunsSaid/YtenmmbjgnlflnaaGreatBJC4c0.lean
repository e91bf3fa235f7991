import Derived.Test.YtenmmbjgnlflnaaGreatBJC3b0
import Derived.Test.YtenmmbjgnlflnaaGreatBJC3c0
import Derived.Test.YtenmmbjgnlflnaaGreatBJC3d0
set_option linter.unusedSimpArgs false
set_option linter.unusedVariables false
namespace Go.Proofs.YtenmmbjgnlflnaaGreat
open Go Go.RowKit
set_option maxRecDepth 100000
set_option maxHeartbeats 20000000
instance V3i:∀ (n:Nat) (p0:(List Q4)),Ct (Z26 n p0) fun res=>Q7 Tryz.prog 0o00323 [(.slice 2 (List.map Z8 p0))] (fun d=>d=(eS res)):=
 au Tryz.func211 Z26.eq_1 (.o (.o (.ls 0 (.f [3] [] [0,3,4] [] (fun (k866:Nat) (s862:ByteArray)=>[(3,eS s862),(4,eI (k866:Int))]) (fun k866 s862=>[]) (fun k866 s862=>.b fun (x867:Q4)=>.j 5 1 [0,3,4] [] (fun (s956:ByteArray)=>[(3,eS s956)]) (fun _=>[]) .z (fun s956=>.o (.o (.le 0 1 3 Q8c x867.ctors x867 (.f [0,3,4] [] [0,3,4,5] [] (fun (k1014:Nat) (s1010:ByteArray)=>[(3,eS s1010),(5,eI (k1014:Int))]) (fun k1014 s1010=>[]) (fun k1014 s1010=>.o (.j 11 1 [0,3,4,5] [] (fun (s1030:ByteArray)=>[(3,eS s1030)]) (fun _=>[]) .z (fun _=>.z))) (fun s1018=>.z)))))) (fun s870=>.z)))))
instance W8h:∀ (n:Nat) (p0:(List Q4)) (p1:Q2) (p2:Q0),Ct (Q3x n p0 p1 p2) fun res=>Q7 Tryz.prog 0o00456 [(.slice 2 (List.map Z8 p0)),(.agg (Z7 p1)),(.agg (Q3 p2))] (fun d=>d=(eB res)):=
 ar (au Tryz.func302 Q3x.eq_2 (.o (.o (.o (.o (.o (.o (.ls 14 (.f [0,4,5] [0,8] [0,4,5,7,8] [0,8] (fun (k65:Nat) (s61:Unit)=>[(8,eI (k65:Int))]) (fun k65 s61=>[]) (fun k65 s61=>.o (.g [0,4,5,7,8] [0,1] [] [] (.o (.o (.d [0,1,2,3,4,5,6,7,8,9,10,11] [1] [] .z))))) (fun s69=>.i (.g [0,4,5] [0,1] [] [] (.o (.o (.o (.o (.o (.d [0,1,2,3,4,5,7,8,9,10,11,12,6,13,14,15] [0,1] [] .z))))))) (.o (.ll 51 (.f [] [] [9,10] [51] (fun (k142:Nat) (s138:Unit)=>[(10,eI (k142:Int))]) (fun k142 s138=>[]) (fun k142 s138=>.z) (fun s146=>.z))))))))))))))
instance W4e:∀ (n:Nat) (p0:Q4t) (p1:Q2) (p2:Z1),Ct (Q2m n p0 p1 p2) fun res=>Q7 Tryz.prog 0o00133 [(.agg (Q8b p0)),(.agg (Z7 p1)),(.agg (V8 p2))] (fun d=>d=(eB res)):=
 au Tryz.func91 Q2m.eq_1 .z
instance V9v:∀ (n:Nat) (p0:(List Z6)) (p1:Q1),Ct (Z01 n p0 p1) fun res=>Q7 Tryz.prog 0o00146 [(.slice 9 (List.map V6 p0)),(.agg (X0 p1))] (fun d=>d=.tup [(eI res.1),(.slice 4 (List.map Q02 res.2))]):=
 au Tryz.func102 Z01.eq_1 (.o (.o (.o (.ls 0 (.f [] [] [3,10,11,12] [0] (fun (k139:Nat) (s135:Unit)=>[(12,eI (k139:Int))]) (fun k139 s135=>[]) (fun k139 s135=>.o (.j 3 0 [3,10,11,12] [0] (fun (s153:Unit)=>[]) (fun _=>[]) .z (fun _=>.z))) (fun s143=>.z))))))
end Go.Proofs.YtenmmbjgnlflnaaGreat
