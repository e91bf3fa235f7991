import Derived.Test.YtjgapphpbkapmaaGreatNJC2d0
import Derived.Test.YtjgapphpbkapmaaGreatNJC2b0
import Derived.Test.YtjgapphpbkapmaaGreatNJC2a0
set_option linter.unusedSimpArgs false
set_option linter.unusedVariables false
namespace Go.Proofs.YtjgapphpbkapmaaGreat
open Go Go.RowKit
set_option maxRecDepth 100000
set_option maxHeartbeats 20000000
instance Z7z:∀ (n:Nat) (p0:Z9) (p1:(List Grow)) (p2:(List Z6)),Ct (J8 n p0 p1 p2) fun res=>J2 Tryz.prog 0o00173 [⟨4,[(V8 p0)],0,0x0068⟩] [.ptr 4 0 0 0,(.slice 3 (List.map Q37 p1)),(.slice 3 (List.map Q0o p2))] (fun H d=>H=[some ⟨4,[(V8 res.2)],0,0x0068⟩]∧d=(eI res.1)):=
 au Tryz.func123 J8.eq_1 (.o (.o (.o (.o (.ls 2 (.f [7] [0] [0,1,2,7,8,14,15] [0] (fun (k887:Nat) (s883:Z9×Int×Int)=>[(7,eI s883.2.1),(8,eI s883.2.2),(15,eI (k887:Int))]) (fun k887 s883=>[(0,some ⟨4,[(V8 s883.1)],0,0x0068⟩)]) (fun k887 s883=>.o (.j 4 0 [0,1,2,7,8,14,15] [0] (fun (s976:Z9×Int×Int)=>[(7,eI s976.2.1),(8,eI s976.2.2)]) (fun s976=>[(0,some ⟨4,[(V8 s976.1)],0,0x0068⟩)]) (.o (.o (.i .z (.j 7 0 [0,1,2,7,8,9,10,14,15] [0] (fun (s1020:Z9×Int)=>[(10,eI s1020.2)]) (fun s1020=>[(0,some ⟨4,[(V8 s1020.1)],0,0x0068⟩)]) (.i (.ls 1 (.f [0,1,2,7,8,9,10,14,15] [0] [0,1,2,7,8,9,10,14,15,33,34,35] [0] (fun (k1044:Nat) (s1040:Int)=>[(10,eI s1040),(35,eI (k1044:Int))]) (fun k1044 s1040=>[]) (fun k1044 s1040=>.o (.j 11 0 [0,1,2,7,8,9,10,14,15,33,34,35] [0] (fun (s1051:Int)=>[(10,eI s1051)]) (fun _=>[]) .z (fun _=>.z))) (fun s1048=>.z))) .z) (fun _=>.z))))) (fun _=>.z))) (fun s891=>.z)))))))
instance W1g:∀ (n:Nat) (p0:(List Q3)),Ct (Q09 n p0) fun res=>Z1 Tryz.prog 0o00321 [(.slice 2 (List.map W2 p0))] (fun d=>d=(.slice 1 (List.map rI res))):=
 au Tryz.func209 Q09.eq_1 (.o (.o (.o (.w [3] [32] [0,3,4] [32] (fun (s7767:(List Int)×Int)=>[(3,.sl 1 32 (s7767.1).length),(4,eI s7767.2)]) (fun s7767=>[(32,some ⟨1,(List.map rI s7767.1),0,0x0003⟩)]) (fun s7767=>.i (.w [0,3,4] [0] [0,3,4,5] [0] (fun (s9063:(List Int)×Int)=>[(3,.sl 1 0 (s9063.1).length),(5,eI s9063.2)]) (fun s9063=>[(0,some ⟨1,(List.map rI s9063.1),0,0x0003⟩)]) (fun s9063=>.i (.o (.ls 33 (.f [0,3,4,5] [0] [0,3,4,5,6,7,8] [0,73] (fun (k9286:Nat) (s9282:(List Int))=>[(3,.sl 1 0 (s9282).length),(8,eI (k9286:Int))]) (fun k9286 s9282=>[(0,some ⟨1,(List.map rI s9282),0,0x0003⟩)]) (fun k9286 s9282=>.o (.j 13 0 [0,3,4,5,6,7,8] [0,1] (fun (s9307:(List Int))=>[(3,.sl 1 0 (s9307).length)]) (fun s9307=>[(0,some ⟨1,(List.map rI s9307),0,0x0003⟩)]) (.g [0,3,4,5,6,7,8] [0,1] [] [] (.o (.d [0,1,2,3,4,5,6,7,8] [1] [] .z))) (fun _=>.z))) (fun s9290=>.z)))) .z) (fun s9071=>.z)) .z) (fun s7775=>.z)))))
instance W18:∀ (n:Nat) (p0:(List Q3)) (p1:Q5) (p2:Q0) (p3:Int),Ct (Q1m n p0 p1 p2 p3) fun res=>Z1 Tryz.prog 0o00405 [(.slice 2 (List.map W2 p0)),(.agg (W1 p1)),(.agg (Q7 p2)),(eI p3)] (fun d=>d=(eB res)):=
 ar (au Tryz.func261 Q1m.eq_2 (.o (.o (.o (.o (.o (.o (.i .z (.o (.i .z (.o (.i .z (.ls 23 (.f [] [] [0,3,6,9,10] [8] (fun (k83:Nat) (s79:Unit)=>[(10,eI (k83:Int))]) (fun k83 s79=>[]) (fun k83 s79=>.o (.g [0,3,6,9,10] [0] [] [] (.o (.o (.d [0,1,2,3,4,5,6,7,8,9,10,11,12,13] [0] [] .z))))) (fun s87=>.z)))))))))))))))
end Go.Proofs.YtjgapphpbkapmaaGreat
