import Derived.Test.YtbdkbdafhlcilaaGreatJC2b0
import Derived.Test.YtbdkbdafhlcilaaGreatJC2d0
import Derived.Test.YtbdkbdafhlcilaaGreatJC2c0
set_option linter.unusedSimpArgs false
set_option linter.unusedVariables false
namespace Go.Proofs.YtbdkbdafhlcilaaGreat
open Go Go.RowKit
set_option maxRecDepth 100000
set_option maxHeartbeats 20000000
instance W84:∀ (p0:(List Q3)) (p1:Q2) (p2:Q0),Ct (Q5s p0 p1 p2) fun res=>Z1 Tryz.prog 0o00341 [(.slice 2 (List.map V0 p0)),(.agg (X9 p1)),(.agg (Q1 p2))] (fun d=>d=(.slice 2 (List.map X9 res))):=
 au Tryz.func225 Q5s.eq_1 .z
instance V09:∀ (n:Nat) (p0:(List Q3)),Ct (Q0a n p0) fun res=>Z1 Tryz.prog 0o00060 [(.slice 2 (List.map V0 p0))] (fun d=>d=(.slice 1 (List.map rI res))):=
 au Tryz.func48 Q0a.eq_1 (.o (.o (.o (.w [3] [32] [0,3,4] [32] (fun (s7767:(List Int)×Int)=>[(3,.sl 1 32 (s7767.1).length),(4,eI s7767.2)]) (fun s7767=>[(32,some ⟨1,(List.map rI s7767.1),0,0x0003⟩)]) (fun s7767=>.i (.w [0,3,4] [0] [0,3,4,5] [0] (fun (s9063:(List Int)×Int)=>[(3,.sl 1 0 (s9063.1).length),(5,eI s9063.2)]) (fun s9063=>[(0,some ⟨1,(List.map rI s9063.1),0,0x0003⟩)]) (fun s9063=>.i (.o (.ls 33 (.f [0,3,4,5] [0] [0,3,4,5,6,7,8] [0,73] (fun (k9286:Nat) (s9282:(List Int))=>[(3,.sl 1 0 (s9282).length),(8,eI (k9286:Int))]) (fun k9286 s9282=>[(0,some ⟨1,(List.map rI s9282),0,0x0003⟩)]) (fun k9286 s9282=>.o (.j 13 0 [0,3,4,5,6,7,8] [0,1] (fun (s9307:(List Int))=>[(3,.sl 1 0 (s9307).length)]) (fun s9307=>[(0,some ⟨1,(List.map rI s9307),0,0x0003⟩)]) (.g [0,3,4,5,6,7,8] [0,1] [] [] (.o (.d [0,1,2,3,4,5,6,7,8] [1] [] .z))) (fun _=>.z))) (fun s9290=>.z)))) .z) (fun s9071=>.z)) .z) (fun s7775=>.z)))))
instance W9s:∀ (n:Nat) (p0:(List Q5)) (p1:Int),Ct (Q6n n p0 p1) fun res=>Z1 Tryz.prog 0o00405 [(.slice 9 (List.map W0 p0)),(eI p1)] (fun d=>d=.tup [(.slice 6 (List.map Q1 res.1)),(eB res.2)]):=
 au Tryz.func261 Q6n.eq_1 (.o (.o (.o (.w [6] [16] [0,1,6,7] [16] (fun (s121:(List Q0)×Int)=>[(6,.sl 6 16 (s121.1).length),(7,eI s121.2)]) (fun s121=>[(16,some ⟨6,(List.map Q1 s121.1),0,0x0064⟩)]) (fun s121=>.i (.j 5 0 [0,1,6,7] [0] (fun (s140:(List Q0))=>[(6,.sl 6 0 (s140).length)]) (fun s140=>[(0,some ⟨6,(List.map Q1 s140),0,0x0064⟩)]) .z (fun _=>.z)) .z) (fun s129=>.z)))))
instance V02:∀ (n:Nat) (p0:(List Q3)) (p1:Q2) (p2:Q0) (p3:Int),Ct (Q37 n p0 p1 p2 p3) fun res=>Z1 Tryz.prog 0o00334 [(.slice 2 (List.map V0 p0)),(.agg (X9 p1)),(.agg (Q1 p2)),(eI p3)] (fun d=>d=(eB res)):=
 ar (au Tryz.func220 Q37.eq_2 (.o (.o (.o (.o (.o (.o (.i .z (.o (.i .z (.o (.i .z (.ls 23 (.f [] [] [0,3,6,9,10] [8] (fun (k83:Nat) (s79:Unit)=>[(10,eI (k83:Int))]) (fun k83 s79=>[]) (fun k83 s79=>.o (.g [0,3,6,9,10] [0] [] [] (.o (.o (.d [0,1,2,3,4,5,6,7,8,9,10,11,12,13] [0] [] .z))))) (fun s87=>.z)))))))))))))))
instance W7s:∀ (n:Nat) (p0:Z4) (p1:(List Q5)),Ct (Q3d n p0 p1) fun res=>Q05 Tryz.prog 0o00110 [⟨2,[(J2 p0)],0,0x009a⟩] [.ptr 2 0 0 0,(.slice 9 (List.map W0 p1))] (fun H d=>H=[some ⟨2,[(J2 res.2)],0,0x009a⟩,some ⟨9,List.map W0 res.1,0,0x0086⟩]∧d=.sl 9 1 res.1.length):=
 au Tryz.func72 Q3d.eq_1 (.o (.o (.o (.o (.j 2 0 [5] [0,25] (fun (s37:Z4×(List Q5))=>[(5,.sl 9 25 (s37.2).length)]) (fun s37=>[(0,some ⟨2,[(J2 s37.1)],0,0x009a⟩),(25,some ⟨9,(List.map W0 s37.2),0,0x0086⟩)]) (.o (.i .z (.i .z (.i (.w [5] [0,25] [5] [0,25] (fun (s63:(List Q5))=>[(5,.sl 9 25 (s63).length)]) (fun s63=>[(25,some ⟨9,(List.map W0 s63),0,0x0086⟩)]) (fun s63=>.z) (fun s71=>.z)) .z)))) (fun _=>.z))))))
end Go.Proofs.YtbdkbdafhlcilaaGreat
