import Derived.Test.YtgjpamkllimhdaaGreatJC2c0
import Derived.Test.YtgjpamkllimhdaaGreatJC2d0
import Derived.Test.YtgjpamkllimhdaaGreatJC2b0
set_option linter.unusedSimpArgs false
set_option linter.unusedVariables false
namespace Go.Proofs.YtgjpamkllimhdaaGreat
open Go Go.RowKit
set_option maxRecDepth 100000
set_option maxHeartbeats 20000000
instance W38:∀ (n:Nat) (p0:(List Q4)),Ct (Q2w n p0) fun res=>Z1 Tryz.prog 0o00221 [(.slice 2 (List.map W1 p0))] (fun d=>d=(eB res)):=
 au Tryz.func145 Q2w.eq_1 (.o (.o (.i .z (.ls 0 (.f [] [] [0,3] [] (fun (k1226:Nat) (s1222:Unit)=>[(3,eI (k1226:Int))]) (fun k1226 s1222=>[]) (fun k1226 s1222=>.o (.o (.i .z (.i .z (.i .z (.ls 26 (.f [0,3] [] [0,3,4] [] (fun (k1434:Nat) (s1430:Unit)=>[(4,eI (k1434:Int))]) (fun k1434 s1430=>[]) (fun k1434 s1430=>.z) (fun s1438=>.z)))))))) (fun s1230=>.z))))))
instance W78:∀ (n:Nat) (p0:Z9) (p1:(List Q3)),Ct (Q4i n p0 p1) fun res=>Y8 Tryz.prog 0o00066 [⟨2,[(J3 p0)],0,0x0093⟩] [.ptr 2 0 0 0,(.slice 9 (List.map X9 p1))] (fun H d=>H=[some ⟨2,[(J3 res.2)],0,0x0093⟩,some ⟨9,List.map X9 res.1,0,0x004a⟩]∧d=.sl 9 1 res.1.length):=
 au Tryz.func54 Q4i.eq_1 (.o (.o (.o (.o (.j 2 0 [5] [0,25] (fun (s37:Z9×(List Q3))=>[(5,.sl 9 25 (s37.2).length)]) (fun s37=>[(0,some ⟨2,[(J3 s37.1)],0,0x0093⟩),(25,some ⟨9,(List.map X9 s37.2),0,0x004a⟩)]) (.o (.i .z (.i .z (.i (.w [5] [0,25] [5] [0,25] (fun (s63:(List Q3))=>[(5,.sl 9 25 (s63).length)]) (fun s63=>[(25,some ⟨9,(List.map X9 s63),0,0x004a⟩)]) (fun s63=>.z) (fun s71=>.z)) .z)))) (fun _=>.z))))))
instance V27:∀ (n:Nat) (p0:(List Q4)) (p1:Q8g),Ct (Z1a n p0 p1) fun res=>Z1 Tryz.prog 0o00264 [(.slice 2 (List.map W1 p0)),(.agg (Q7d p1))] (fun d=>d=(eB res)):=
 au Tryz.func180 Z1a.eq_1 .z
end Go.Proofs.YtgjpamkllimhdaaGreat
