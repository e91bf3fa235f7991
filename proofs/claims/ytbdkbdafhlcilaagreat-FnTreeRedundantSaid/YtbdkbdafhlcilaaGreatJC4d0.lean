import Derived.Test.YtbdkbdafhlcilaaGreatJC3d0
import Derived.Test.YtbdkbdafhlcilaaGreatJC3c0
set_option linter.unusedSimpArgs false
set_option linter.unusedVariables false
namespace Go.Proofs.YtbdkbdafhlcilaaGreat
open Go Go.RowKit
set_option maxRecDepth 100000
set_option maxHeartbeats 20000000
instance X9j:∀ (n:Nat) (p0:Q24) (p1:Q2) (p2:Q0),Ct (J4 n p0 p1 p2) fun res=>Z1 Tryz.prog 0o00243 [.cptr (Q2s p0),(.agg (X9 p1)),(.agg (Q1 p2))] (fun d=>d=(eB res)):=
 ar (au Tryz.func163 J4.eq_2 (.o (.o (.o (.o (.o (.j 2 0 [0,4,5,10,11] [0,8] (fun (s20:Bool)=>[(11,eB s20)]) (fun _=>[]) .z (fun s20=>.i (.g [0,4] [0] [] [] (.o (.d [0,1,2,3,4,5,6,7] [0] [] .z))) (.i (.g [0,4,5] [0,1] [] [] (.o (.o (.i (.o (.o (.d [0,1,2,3,4,5,6,7,8,9,10,11,12,13,14,15,16] [0,1] [] .z))) (.d [0,1,2,3,4,5,6,7,8,9,10,11,12,13,14,15,16] [0,1] [] .z))))) (.g [0,4,5] [0,1] [] [] (.o (.d [0,1,2,3,4,5,8,6,7] [0,1] [] (.ls 45 (.f [] [] [0,5,45,46,47] [1] (fun (k102:Nat) (s98:Unit)=>[(47,eI (k102:Int))]) (fun k102 s98=>[]) (fun k102 s98=>.o (.g [0,5,7,8,45,46,47] [0,33] [] [] (.o (.o (.d [0,1,2,3,4,5,6,7] [0,1] [] .z))))) (fun s106=>.z)))))))))))))))
instance W7w:∀ (n:Nat) (p0:(List Q3)) (p1:Q2) (p2:Q0),Ct (Q3f n p0 p1 p2) fun res=>Z1 Tryz.prog 0o00336 [(.slice 2 (List.map V0 p0)),(.agg (X9 p1)),(.agg (Q1 p2))] (fun d=>d=(eB res)):=
 ar (au Tryz.func222 Q3f.eq_2 (.o (.o (.o (.o (.o (.o (.ls 14 (.f [0,4,5] [0,8] [0,4,5,7,8] [0,8] (fun (k65:Nat) (s61:Unit)=>[(8,eI (k65:Int))]) (fun k65 s61=>[]) (fun k65 s61=>.o (.g [0,4,5,7,8] [0,1] [] [] (.o (.o (.d [0,1,2,3,4,5,6,7,8,9,10,11] [1] [] .z))))) (fun s69=>.i (.g [0,4,5] [0,1] [] [] (.o (.o (.o (.o (.o (.d [0,1,2,3,4,5,7,8,9,10,11,12,6,13,14,15] [0,1] [] .z))))))) (.o (.ll 51 (.f [] [] [9,10] [51] (fun (k142:Nat) (s138:Unit)=>[(10,eI (k142:Int))]) (fun k142 s138=>[]) (fun k142 s138=>.z) (fun s146=>.z))))))))))))))
end Go.Proofs.YtbdkbdafhlcilaaGreat
