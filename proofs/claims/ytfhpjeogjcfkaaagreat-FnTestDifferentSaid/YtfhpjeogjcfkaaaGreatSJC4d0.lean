import Derived.Test.YtfhpjeogjcfkaaaGreatSJC3a0
import Derived.Test.YtfhpjeogjcfkaaaGreatSJC3c0
import Derived.Test.YtfhpjeogjcfkaaaGreatSJC3b0
set_option linter.unusedSimpArgs false
set_option linter.unusedVariables false
namespace Go.Proofs.YtfhpjeogjcfkaaaGreat
open Go Go.RowKit
set_option maxRecDepth 100000
set_option maxHeartbeats 20000000
instance X6n:∀ (n:Nat) (p0:Q0s) (p1:Q1) (p2:Q0),Ct (W6 n p0 p1 p2) fun res=>Q6 Tryz.prog 0o00244 [.cptr (Q1u p0),(.agg (Z2 p1)),(.agg (Q2 p2))] (fun d=>d=(eB res)):=
 ar (au Tryz.func164 W6.eq_2 (.o (.o (.o (.o (.o (.j 2 0 [0,4,5,10,11] [0,8] (fun (s20:Bool)=>[(11,eB s20)]) (fun _=>[]) .z (fun s20=>.i (.g [0,4] [0] [] [] (.o (.d [0,1,2,3,4,5,6,7] [0] [] .z))) (.i (.g [0,4,5] [0,1] [] [] (.o (.o (.i (.o (.o (.d [0,1,2,3,4,5,6,7,8,9,10,11,12,13,14,15,16] [0,1] [] .z))) (.d [0,1,2,3,4,5,6,7,8,9,10,11,12,13,14,15,16] [0,1] [] .z))))) (.g [0,4,5] [0,1] [] [] (.o (.d [0,1,2,3,4,5,8,6,7] [0,1] [] (.ls 45 (.f [] [] [0,5,45,46,47] [1] (fun (k102:Nat) (s98:Unit)=>[(47,eI (k102:Int))]) (fun k102 s98=>[]) (fun k102 s98=>.o (.g [0,5,7,8,45,46,47] [0,33] [] [] (.o (.o (.d [0,1,2,3,4,5,6,7] [0,1] [] .z))))) (fun s106=>.z)))))))))))))))
instance W4l:∀ (n:Nat) (p0:(List Q4)) (p1:Q1) (p2:Q0),Ct (Q2u n p0 p1 p2) fun res=>Q6 Tryz.prog 0o00447 [(.slice 2 (List.map Z8 p0)),(.agg (Z2 p1)),(.agg (Q2 p2))] (fun d=>d=(eB res)):=
 ar (au Tryz.func295 Q2u.eq_2 (.o (.o (.o (.o (.o (.o (.ls 14 (.f [0,4,5] [0,8] [0,4,5,7,8] [0,8] (fun (k65:Nat) (s61:Unit)=>[(8,eI (k65:Int))]) (fun k65 s61=>[]) (fun k65 s61=>.o (.g [0,4,5,7,8] [0,1] [] [] (.o (.o (.d [0,1,2,3,4,5,6,7,8,9,10,11] [1] [] .z))))) (fun s69=>.i (.g [0,4,5] [0,1] [] [] (.o (.o (.o (.o (.o (.d [0,1,2,3,4,5,7,8,9,10,11,12,6,13,14,15] [0,1] [] .z))))))) (.o (.ll 51 (.f [] [] [9,10] [51] (fun (k142:Nat) (s138:Unit)=>[(10,eI (k142:Int))]) (fun k142 s138=>[]) (fun k142 s138=>.z) (fun s146=>.z))))))))))))))
instance W21:∀ (n:Nat) (p0:(List Q4)) (p1:Q1),Ct (Q38 n p0 p1) fun res=>Q6 Tryz.prog 0o00247 [(.slice 2 (List.map Z8 p0)),(.agg (Z2 p1))] (fun d=>d=(eB res)):=
 au Tryz.func167 Q38.eq_1 .z
end Go.Proofs.YtfhpjeogjcfkaaaGreat
