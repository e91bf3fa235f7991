import Derived.Test.YtgjpamkllimhdaaGreatJC2b0
import Derived.Test.YtgjpamkllimhdaaGreatJC2d0
import Derived.Test.YtgjpamkllimhdaaGreatJC2c0
set_option linter.unusedSimpArgs false
set_option linter.unusedVariables false
namespace Go.Proofs.YtgjpamkllimhdaaGreat
open Go Go.RowKit
set_option maxRecDepth 100000
set_option maxHeartbeats 20000000
instance W9n:∀ (n:Nat) (p0:(List Q4)),Ct (Q0v n p0) fun res=>Z1 Tryz.prog 0o00225 [(.slice 2 (List.map W1 p0))] (fun d=>d=(.slice 1 (List.map rI res))):=
 au Tryz.func149 Q0v.eq_1 (.o (.o (.o (.w [3] [32] [0,3,4] [32] (fun (s7767:(List Int)×Int)=>[(3,.sl 1 32 (s7767.1).length),(4,eI s7767.2)]) (fun s7767=>[(32,some ⟨1,(List.map rI s7767.1),0,0x0003⟩)]) (fun s7767=>.i (.w [0,3,4] [0] [0,3,4,5] [0] (fun (s9063:(List Int)×Int)=>[(3,.sl 1 0 (s9063.1).length),(5,eI s9063.2)]) (fun s9063=>[(0,some ⟨1,(List.map rI s9063.1),0,0x0003⟩)]) (fun s9063=>.i (.o (.ls 33 (.f [0,3,4,5] [0] [0,3,4,5,6,7,8] [0,73] (fun (k9286:Nat) (s9282:(List Int))=>[(3,.sl 1 0 (s9282).length),(8,eI (k9286:Int))]) (fun k9286 s9282=>[(0,some ⟨1,(List.map rI s9282),0,0x0003⟩)]) (fun k9286 s9282=>.o (.j 13 0 [0,3,4,5,6,7,8] [0,1] (fun (s9307:(List Int))=>[(3,.sl 1 0 (s9307).length)]) (fun s9307=>[(0,some ⟨1,(List.map rI s9307),0,0x0003⟩)]) (.g [0,3,4,5,6,7,8] [0,1] [] [] (.o (.d [0,1,2,3,4,5,6,7,8] [1] [] .z))) (fun _=>.z))) (fun s9290=>.z)))) .z) (fun s9071=>.z)) .z) (fun s7775=>.z)))))
instance V1h:∀ (n:Nat) (p0:(List Z2)) (p1:(List Q4)) (p2:Q6) (p3:Q0),Ct (Q17 n p0 p1 p2 p3) fun res=>Y8 Tryz.prog 0o00251 [⟨3,List.map Y7 p0,0,0x010c⟩] [.sl 3 0 p0.length,(.slice 2 (List.map W1 p1)),(.agg (W0 p2)),(.agg (Q9 p3))] (fun H d=>H=[none,some ⟨3,List.map Y7 res,0,0x010c⟩]∧d=.sl 3 1 res.length):=
 ar (au Tryz.func169 Q17.eq_2 (.o (.o (.o (.o (.o (.o (.j 1 0 [0,1,6,7] [0,9000,1,9] (fun (s10:(List Z2))=>[(0,.sl 3 9000 (s10).length)]) (fun s10=>[(0,none),(9000,some ⟨3,(List.map Y7 s10),0,0x010c⟩)]) (.i .z (.i .z (.pM 0 .z))) (fun s10=>.o (.ls 29 (.f [0] [0,1] [0,1,7,9,10] [0,1,3] (fun (k159:Nat) (s155:(List Z2))=>[(0,.sl 3 1 (s155).length),(10,eI (k159:Int))]) (fun k159 s155=>[(0,none),(1,some ⟨3,(List.map Y7 s155),0,0x010c⟩)]) (fun k159 s155=>.o (.j 5 0 [0,1,7,9,10] [0,1,2] (fun (s169:Unit)=>[]) (fun _=>[(0,none)]) .z (fun _=>.g [0,1,7,9,10] [0,1,2] [] [(0,none)] (.o (.o (.d [0,1,2,3,4,5,6,7,8,9,10,11,12] [2] [] .z)))))) (fun s163=>.z))))))))))))
instance W7i:∀ (p0:(List Z2)) (p1:(List Z2)),Ct (Q5u p0 p1) fun res=>Z1 Tryz.prog 0o00343 [(.slice 3 (List.map Y7 p0)),(.slice 3 (List.map Y7 p1))] (fun d=>d=(eB res)):=
 au Tryz.func227 Q5u.eq_1 .z
instance W52:∀ (n:Nat) (p0:(List Q4)),Ct (Q58 n p0) fun res=>Z1 Tryz.prog 0o00120 [(.slice 2 (List.map W1 p0))] (fun d=>d=.cptr (Q84 res)):=
 au Tryz.func80 Q58.eq_1 .z
end Go.Proofs.YtgjpamkllimhdaaGreat
