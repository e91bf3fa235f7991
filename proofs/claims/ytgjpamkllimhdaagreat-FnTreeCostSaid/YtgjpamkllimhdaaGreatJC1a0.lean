import Derived.Test.YtgjpamkllimhdaaGreatJC0c0
import Derived.Test.YtgjpamkllimhdaaGreatJC0d0
import Derived.Test.YtgjpamkllimhdaaGreatJC0a0
import Derived.Test.YtgjpamkllimhdaaGreatJC0b0
set_option linter.unusedSimpArgs false
set_option linter.unusedVariables false
namespace Go.Proofs.YtgjpamkllimhdaaGreat
open Go Go.RowKit
set_option maxRecDepth 100000
set_option maxHeartbeats 20000000
instance W9o:∀ (n:Nat) (p0:Int),Ct (Z05 n p0) fun res=>Z1 Tryz.prog 0o00363 [(eI p0)] (fun d=>d=(eS res)):=
 au Tryz.func243 Z05.eq_1 .z
instance V46:∀ (p0:Int),Ct (Q77 p0) fun res=>Z1 Tryz.prog 0o00354 [(eI p0)] (fun d=>d=(eB res)):=
 au Tryz.func236 Q77.eq_1 .z
instance V25:∀ (p0:(List Q4)) (p1:Q6),Ct (Q7m p0 p1) fun res=>Z1 Tryz.prog 0o00212 [(.slice 2 (List.map W1 p0)),(.agg (W0 p1))] (fun d=>d=(eB res)):=
 au Tryz.func138 Q7m.eq_1 .z
instance V43:∀ (n:Nat) (p0:Q0) (p1:(List Int)) (p2:(List X0)) (p3:(List Q2)),Ct (Q76 n p0 p1 p2 p3) fun res=>Y8 Tryz.prog 0o00072 [⟨1,[[.sl 8 1 p2.length]],0,0x0031⟩,⟨8,List.map Q21 p2,0,0x0038⟩,⟨1,[[.sl 2 3 p3.length]],0,0x0036⟩,⟨2,List.map Z0 p3,0,0x0069⟩] [(.agg (Q9 p0)),(.slice 1 (List.map rI p1)),.ptr 1 0 0 0,.ptr 1 2 0 0] (fun H d=>H=[some ⟨1,[[.sl 8 4 res.1.length]],0,0x0031⟩,none,some ⟨1,[[.sl 2 5 res.2.length]],0,0x0036⟩,none,some ⟨8,List.map Q21 res.1,0,0x0038⟩,some ⟨2,List.map Z0 res.2,0,0x0069⟩]∧d=.tup []):=
 ar (au Tryz.func58 Q76.eq_2 (.o (.o (.o (.o (.b fun (p2:(List X0))=>.b fun (p3:(List Q2))=>.o (.j 2 0 [1,2,3,4] [0,1,2,3,9000,9001,4] (fun (s13:(List X0)×(List Q2))=>[]) (fun s13=>[(1000000000,some ⟨1,[[(.sl 8 9000 (s13.1).length)]],0,0x0031⟩),(1,none),(1000000002,some ⟨1,[[(.sl 2 9001 (s13.2).length)]],0,0x0036⟩),(3,none),(9000,some ⟨8,(List.map Q21 s13.1),0,0x0038⟩),(9001,some ⟨2,(List.map Z0 s13.2),0,0x0069⟩)]) (.j 3 0 [1,2,3,4,8,15,16] [0,1,2,3,4,21] (fun (s17:Bool)=>[(16,eB s17)]) (fun _=>[(1000000000,some ⟨1,[[(.sl 8 1 (p2).length)]],0,0x0031⟩),(1000000002,some ⟨1,[[(.sl 2 3 (p3).length)]],0,0x0036⟩)]) .z (fun s17=>.i (.g [1,2,3,4,8] [0,1,2,3,4,5] [] [(1000000000,some ⟨1,[[(.sl 8 1 (p2).length)]],0,0x0031⟩),(1000000002,some ⟨1,[[(.sl 2 3 (p3).length)]],0,0x0036⟩)] (.o (.d [0,1,2,3,4,5,6,7,8,9,10,11] [2,4] [29] (.pF 5 (.pB 0 .z))))) (.i (.g [1,2,3,4,8] [0,1,2,3,4,5] [] [(1000000000,some ⟨1,[[(.sl 8 1 (p2).length)]],0,0x0031⟩),(1000000002,some ⟨1,[[(.sl 2 3 (p3).length)]],0,0x0036⟩)] (.o (.d [0,1,2,3,4,5,6,7,8,9,10,11,12,13] [0,4] [44] (.pF 5 (.pB 2 .z))))) (.i (.g [1,2,3,4,8] [0,1,2,3,4,5] [] [(1000000000,some ⟨1,[[(.sl 8 1 (p2).length)]],0,0x0031⟩),(1000000002,some ⟨1,[[(.sl 2 3 (p3).length)]],0,0x0036⟩)] (.o (.d [0,1,2,3,4,5,6,7,8,9,10,11] [0,4] [57] (.pF 5 (.pB 2 .z))))) (.pB 0 (.pB 2 .z)))))) (fun s13=>.ls 59 (.f [] [0,1,2,3,4,5] [1,2,3,4,59,60,61] [0,1,2,3,4,5,6] (fun (k83:Nat) (s79:(List X0)×(List Q2))=>[(61,eI (k83:Int))]) (fun k83 s79=>[(1000000000,some ⟨1,[[(.sl 8 4 (s79.1).length)]],0,0x0031⟩),(1,none),(1000000002,some ⟨1,[[(.sl 2 5 (s79.2).length)]],0,0x0036⟩),(3,none),(4,some ⟨8,(List.map Q21 s79.1),0,0x0038⟩),(5,some ⟨2,(List.map Z0 s79.2),0,0x0069⟩)]) (fun k83 s79=>.o (.j 14 0 [1,2,3,4,10,11,59,60,61] [0,1,2,3,4,5,6,39] (fun (s101:(List Int))=>[(11,.slice 1 (List.map rI s101))]) (fun _=>[(1000000000,some ⟨1,[[(.sl 8 4 (s79.1).length)]],0,0x0031⟩),(1,none),(1000000002,some ⟨1,[[(.sl 2 5 (s79.2).length)]],0,0x0036⟩),(3,none)]) (.i (.o (.o (.pF 135 .z))) .z) (fun _=>.z))) (fun s87=>.z))))))))))
instance V47:∀ (n:Nat) (p0:(List Q2)) (p1:Q1),Ct (Q4w n p0 p1) fun res=>Z1 Tryz.prog 0o00101 [(.slice 2 (List.map Z0 p0)),(.agg (X2 p1))] (fun d=>d=(.slice 4 (List.map Q5n res))):=
 au Tryz.func65 Q4w.eq_1 (.o (.o (.o (.pN 5 4 0x0090 (.ls 0 (.f [5] [48] [3,5,8,9,10] [0,48] (fun (k66:Nat) (s62:(List W9))=>[(5,.sl 4 48 (s62).length),(10,eI (k66:Int))]) (fun k66 s62=>[(48,some ⟨4,(List.map Q5n s62),0,0x0090⟩)]) (fun k66 s62=>.o (.g [3,5,7,8,9,10] [0,1,26] [] [] (.o (.o (.o (.d [0,1,2,3,4,5,6,7,8,9,10,11] [0,2] [] .z)))))) (fun s70=>.z)))))))
instance W3j:∀ (p0:Q37) (p1:(List W9)),Ct (Q0a p0 p1) fun res=>Z1 Tryz.prog 0o00102 [(.agg (Q8i p0)),(.slice 4 (List.map Q5n p1))] (fun d=>d=(eB res)):=
 au Tryz.func66 Q0a.eq_1 .z
instance V5s:∀ (p0:(List Q4)) (p1:Q6),Ct (Q9c p0 p1) fun res=>Z1 Tryz.prog 0o00222 [(.slice 2 (List.map W1 p0)),(.agg (W0 p1))] (fun d=>d=(eB res)):=
 au Tryz.func146 Q9c.eq_1 .z
instance W9b:∀ (p0:Q37) (p1:(List Z2)),Ct (Q5e p0 p1) fun res=>Z1 Tryz.prog 0o00250 [(.agg (Q8i p0)),(.slice 3 (List.map Y7 p1))] (fun d=>d=(eB res)):=
 au Tryz.func168 Q5e.eq_1 (.o (.o (.i .z (.j 3 0 [1,2] [0] (fun (s23:Unit)=>[]) (fun _=>[]) .z (fun _=>.z)))))
instance X51:∀ (p0:(List (List Z5))),Ct (Q1p p0) fun res=>Z1 Tryz.prog 0o00206 [(.slice 1 (List.map (rL 3 Q1i) p0))] (fun d=>d=(.slice 3 (List.map Q1i res))):=
 au Tryz.func134 Q1p.eq_1 (.o (.ls 0 (.f [0,3] [] [0,3,9,10,11] [] (fun (k46:Nat) (s42:Int)=>[(3,eI s42),(11,eI (k46:Int))]) (fun k46 s42=>[]) (fun k46 s42=>.z) (fun s50=>.o (.ls 0 (.f [6] [9] [6,25,26,27] [9] (fun (k99:Nat) (s95:(List Z5))=>[(6,.sl 3 9 (s95).length),(27,eI (k99:Int))]) (fun k99 s95=>[(9,some ⟨3,(List.map Q1i s95),0,0x0084⟩)]) (fun k99 s95=>.z) (fun s103=>.z)))))))
end Go.Proofs.YtgjpamkllimhdaaGreat
