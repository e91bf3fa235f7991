import Derived.Test.YtgjpamkllimhdaaGreatJC3b0
import Derived.Test.YtgjpamkllimhdaaGreatJC3d0
import Derived.Test.YtgjpamkllimhdaaGreatJC3c0
set_option linter.unusedSimpArgs false
set_option linter.unusedVariables false
namespace Go.Proofs.YtgjpamkllimhdaaGreat
open Go Go.RowKit
set_option maxRecDepth 100000
set_option maxHeartbeats 20000000
instance V1r:∀ (n:Nat) (p0:(List Q4)),Ct (Z14 n p0) fun res=>Z1 Tryz.prog 0o00337 [(.slice 2 (List.map W1 p0))] (fun d=>d=(eS res)):=
 au Tryz.func223 Z14.eq_1 (.o (.o (.ls 0 (.f [3] [] [0,3,4] [] (fun (k866:Nat) (s862:ByteArray)=>[(3,eS s862),(4,eI (k866:Int))]) (fun k866 s862=>[]) (fun k866 s862=>.b fun (x867:Q4)=>.j 5 1 [0,3,4] [] (fun (s956:ByteArray)=>[(3,eS s956)]) (fun _=>[]) .z (fun s956=>.o (.o (.le 0 1 3 Q7d x867.ctors x867 (.f [0,3,4] [] [0,3,4,5] [] (fun (k1014:Nat) (s1010:ByteArray)=>[(3,eS s1010),(5,eI (k1014:Int))]) (fun k1014 s1010=>[]) (fun k1014 s1010=>.o (.j 11 1 [0,3,4,5] [] (fun (s1030:ByteArray)=>[(3,eS s1030)]) (fun _=>[]) .z (fun _=>.z))) (fun s1018=>.z)))))) (fun s870=>.z)))))
instance W7c:∀ (n:Nat) (p0:(List Q4)) (p1:Q6) (p2:Q0),Ct (Q34 n p0 p1 p2) fun res=>Z1 Tryz.prog 0o00317 [(.slice 2 (List.map W1 p0)),(.agg (W0 p1)),(.agg (Q9 p2))] (fun d=>d=(eB res)):=
 ar (au Tryz.func207 Q34.eq_2 (.o (.o (.o (.o (.o (.o (.ls 14 (.f [0,4,5] [0,8] [0,4,5,7,8] [0,8] (fun (k65:Nat) (s61:Unit)=>[(8,eI (k65:Int))]) (fun k65 s61=>[]) (fun k65 s61=>.o (.g [0,4,5,7,8] [0,1] [] [] (.o (.o (.d [0,1,2,3,4,5,6,7,8,9,10,11] [1] [] .z))))) (fun s69=>.i (.g [0,4,5] [0,1] [] [] (.o (.o (.o (.o (.o (.d [0,1,2,3,4,5,7,8,9,10,11,12,6,13,14,15] [0,1] [] .z))))))) (.o (.ll 51 (.f [] [] [9,10] [51] (fun (k142:Nat) (s138:Unit)=>[(10,eI (k142:Int))]) (fun k142 s138=>[]) (fun k142 s138=>.z) (fun s146=>.z))))))))))))))
instance W4w:∀ (n:Nat) (p0:(List Q4)) (p1:Q6),Ct (Q3g n p0 p1) fun res=>Z1 Tryz.prog 0o00141 [(.slice 2 (List.map W1 p0)),(.agg (W0 p1))] (fun d=>d=(eB res)):=
 au Tryz.func97 Q3g.eq_1 .z
end Go.Proofs.YtgjpamkllimhdaaGreat
