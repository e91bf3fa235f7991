import Derived.Test.YtgjpamkllimhdaaGreatJC2a0
import Derived.Test.YtgjpamkllimhdaaGreatJC2d0
import Derived.Test.YtgjpamkllimhdaaGreatJC2b0
import Derived.Test.YtgjpamkllimhdaaGreatJC2c0
set_option linter.unusedSimpArgs false
set_option linter.unusedVariables false
namespace Go.Proofs.YtgjpamkllimhdaaGreat
open Go Go.RowKit
set_option maxRecDepth 100000
set_option maxHeartbeats 20000000
instance W36:∀ (n:Nat) (p0:(List Q4)) (p1:Q8g),Ct (Q7z n p0 p1) fun res=>Z1 Tryz.prog 0o00352 [(.slice 2 (List.map W1 p0)),(.agg (Q7d p1))] (fun d=>d=(eS res)):=
 au Tryz.func234 Q7z.eq_1 (.o (.o (.b fun (p1:Q8g)=>.lc 0 1 2 W0 p1.args (.f [3,5] [0] [0,3,5,6] [0] (fun (k146:Nat) (s142:ByteArray)=>[(5,eS s142),(6,eI (k146:Int))]) (fun k146 s142=>[]) (fun k146 s142=>.o (.j 5 1 [0,3,5,6] [0] (fun (s165:ByteArray)=>[(5,eS s165)]) (fun _=>[]) .z (fun _=>.z))) (fun s150=>.j 9 0 [3,5] [0] (fun (s175:ByteArray)=>[(5,eS s175)]) (fun _=>[]) .z (fun s175=>.j 11 0 [5] [] (fun (s184:ByteArray)=>[(5,eS s184)]) (fun _=>[]) .z (fun _=>.z)))))))
instance W9e:∀ (n:Nat) (p0:(List Q4)) (p1:Q6) (p2:Q0) (p3:Int),Ct (Q2q n p0 p1 p2 p3) fun res=>Z1 Tryz.prog 0o00315 [(.slice 2 (List.map W1 p0)),(.agg (W0 p1)),(.agg (Q9 p2)),(eI p3)] (fun d=>d=(eB res)):=
 ar (au Tryz.func205 Q2q.eq_2 (.o (.o (.o (.o (.o (.o (.i .z (.o (.i .z (.o (.i .z (.ls 23 (.f [] [] [0,3,6,9,10] [8] (fun (k83:Nat) (s79:Unit)=>[(10,eI (k83:Int))]) (fun k83 s79=>[]) (fun k83 s79=>.o (.g [0,3,6,9,10] [0] [] [] (.o (.o (.d [0,1,2,3,4,5,6,7,8,9,10,11,12,13] [0] [] .z))))) (fun s87=>.z)))))))))))))))
instance X41:∀ (n:Nat) (p0:X3) (p1:(List Grow)) (p2:(List Z5)),Ct (Q0g n p0 p1 p2) fun res=>Y8 Tryz.prog 0o00202 [⟨4,[(J5 p0)],0,0x0081⟩] [.ptr 4 0 0 0,(.slice 3 (List.map Q4x p1)),(.slice 3 (List.map Q1i p2))] (fun H d=>H=[some ⟨4,[(J5 res.2)],0,0x0081⟩]∧d=(eI res.1)):=
 au Tryz.func130 Q0g.eq_1 (.o (.o (.o (.o (.ls 2 (.f [7] [0] [0,1,2,7,8,14,15] [0] (fun (k887:Nat) (s883:X3×Int×Int)=>[(7,eI s883.2.1),(8,eI s883.2.2),(15,eI (k887:Int))]) (fun k887 s883=>[(0,some ⟨4,[(J5 s883.1)],0,0x0081⟩)]) (fun k887 s883=>.o (.j 4 0 [0,1,2,7,8,14,15] [0] (fun (s976:X3×Int×Int)=>[(7,eI s976.2.1),(8,eI s976.2.2)]) (fun s976=>[(0,some ⟨4,[(J5 s976.1)],0,0x0081⟩)]) (.o (.o (.i .z (.j 7 0 [0,1,2,7,8,9,10,14,15] [0] (fun (s1020:X3×Int)=>[(10,eI s1020.2)]) (fun s1020=>[(0,some ⟨4,[(J5 s1020.1)],0,0x0081⟩)]) (.i (.ls 1 (.f [0,1,2,7,8,9,10,14,15] [0] [0,1,2,7,8,9,10,14,15,33,34,35] [0] (fun (k1044:Nat) (s1040:Int)=>[(10,eI s1040),(35,eI (k1044:Int))]) (fun k1044 s1040=>[]) (fun k1044 s1040=>.o (.j 11 0 [0,1,2,7,8,9,10,14,15,33,34,35] [0] (fun (s1051:Int)=>[(10,eI s1051)]) (fun _=>[]) .z (fun _=>.z))) (fun s1048=>.z))) .z) (fun _=>.z))))) (fun _=>.z))) (fun s891=>.z)))))))
end Go.Proofs.YtgjpamkllimhdaaGreat
