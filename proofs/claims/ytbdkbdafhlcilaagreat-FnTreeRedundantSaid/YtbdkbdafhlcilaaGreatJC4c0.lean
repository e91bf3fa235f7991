import Derived.Test.YtbdkbdafhlcilaaGreatJC3a0
import Derived.Test.YtbdkbdafhlcilaaGreatJC3b0
set_option linter.unusedSimpArgs false
set_option linter.unusedVariables false
namespace Go.Proofs.YtbdkbdafhlcilaaGreat
open Go Go.RowKit
set_option maxRecDepth 100000
set_option maxHeartbeats 20000000
instance W44:∀ (n:Nat) (p0:(List Q3)),Ct (Q4q n p0) fun res=>Z1 Tryz.prog 0o00250 [(.slice 2 (List.map V0 p0))] (fun d=>d=(eB res)):=
 au Tryz.func168 Q4q.eq_1 (.o (.o (.i .z (.ls 0 (.f [] [] [0,3,4,14,15,16] [32,48] (fun (k1660:Nat) (s1656:(List (ByteArray×Bool))×(List (ByteArray×Bool)))=>[(16,eI (k1660:Int))]) (fun k1660 s1656=>[(32,some ⟨0,List.map rSB s1656.1,0,0x011a⟩),(48,some ⟨0,List.map rSB s1656.2,0,0x011a⟩)]) (fun k1660 s1656=>.o (.i .z (.o (.i .z (.i .z (.i .z (.i .z (.o (.i .z (.ls 49 (.f [0,3,4,14,15,16] [0,1] [0,3,4,14,15,16,58,59,60] [0,1] (fun (k1952:Nat) (s1948:(List (ByteArray×Bool)))=>[(60,eI (k1952:Int))]) (fun k1952 s1948=>[(0,some ⟨0,List.map rSB s1948,0,0x011a⟩)]) (fun k1952 s1948=>.z) (fun s1956=>.z)))))))))))) (fun s1664=>.z))))))
instance W3t:∀ (n:Nat) (p0:(List Q3)) (p1:(List Int)) (p2:Q2) (p3:(List Q0)) (p4:(List Q0)),Ct (Q4l n p0 p1 p2 p3 p4) fun res=>Z1 Tryz.prog 0o00404 [(.slice 2 (List.map V0 p0)),(.slice 1 (List.map rI p1)),(.agg (X9 p2)),(.slice 6 (List.map Q1 p3)),(.slice 6 (List.map Q1 p4))] (fun d=>d=.tup [(.slice 6 (List.map Q1 res.1)),(eB res.2)]):=
 au Tryz.func260 Q4l.eq_1 (.o (.o (.o (.o (.o (.o (.ls 4 (.f [0,1,3,7] [0] [0,1,3,4,7,12] [0] (fun (k1254:Nat) (s1250:(List Q0))=>[(3,.slice 6 (List.map Q1 s1250)),(12,eI (k1254:Int))]) (fun k1254 s1250=>[]) (fun k1254 s1250=>.o (.ls 3 (.f [0,1,4,7,12,13] [0,33] [0,1,3,4,7,12,13,14] [0,33] (fun (k1471:Nat) (s1467:(List Q0))=>[(13,.sl 6 33 (s1467).length),(14,eI (k1471:Int))]) (fun k1471 s1467=>[(33,some ⟨6,(List.map Q1 s1467),0,0x0064⟩)]) (fun k1471 s1467=>.o (.i (.g [0,1,3,4,7,12,13,14] [0,1] [] [] (.o (.o (.o (.d [0,1,2,3,4,5,6,7,8,9,10,11,12,13,14,15,16,17] [0] [] .z))))) .z)) (fun s1475=>.i .z (.pF 1 .z))))) (fun s1258=>.z)))))))))
instance W5a:∀ (n:Nat) (p0:(List Q3)) (p1:Q2),Ct (Q57 n p0 p1) fun res=>Z1 Tryz.prog 0o00157 [(.slice 2 (List.map V0 p0)),(.agg (X9 p1))] (fun d=>d=(eB res)):=
 au Tryz.func111 Q57.eq_1 .z
end Go.Proofs.YtbdkbdafhlcilaaGreat
