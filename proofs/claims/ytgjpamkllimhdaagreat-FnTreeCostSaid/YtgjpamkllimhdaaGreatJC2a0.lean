import Derived.Test.YtgjpamkllimhdaaGreatJC1a0
import Derived.Test.YtgjpamkllimhdaaGreatJC1c0
import Derived.Test.YtgjpamkllimhdaaGreatJC1d0
import Derived.Test.YtgjpamkllimhdaaGreatJC1b0
set_option linter.unusedSimpArgs false
set_option linter.unusedVariables false
namespace Go.Proofs.YtgjpamkllimhdaaGreat
open Go Go.RowKit
set_option maxRecDepth 100000
set_option maxHeartbeats 20000000
instance V1q:∀ (n:Nat) (p0:(List Q4)) (p1:Q6),Ct (Z13 n p0 p1) fun res=>Z1 Tryz.prog 0o00360 [(.slice 2 (List.map W1 p0)),(.agg (W0 p1))] (fun d=>d=(eS res)):=
 au Tryz.func240 Z13.eq_1 (.o (.o (.o (.i .z (.g [0,3] [0] [] [] (.o (.o (.o (.d [0,1,2,3,4,5,6,7,8,9,10] [0] [] .z)))))))))
instance V45:∀ (p0:(List Q4)) (p1:Q6) (p2:Q0),Ct (Q8c p0 p1 p2) fun res=>Z1 Tryz.prog 0o00342 [(.slice 2 (List.map W1 p0)),(.agg (W0 p1)),(.agg (Q9 p2))] (fun d=>d=.tup [(.slice 2 (List.map W0 res.1)),(eB res.2)]):=
 au Tryz.func226 Q8c.eq_1 (.o (.o (.o (.i .z (.i .z (.i (.g [4,5] [0,8] [] [] (.i (.o (.i (.i (.i (.d [0,1,2,3,4,5,6,7,8,9,10,11,12,13,14,15,16,17,18,19,20,21,22,23,24,25] [0,1] [] .z) (.d [0,1,2,3,4,5,6,7,8,9,10,11,12,13,14,15,16,17,18,19,20,21,22,23,24,25] [0,1] [] .z)) (.d [0,1,2,3,4,5,6,7,8,9,10,11,12,13,14,15,16,17,18,19,20,21,22,23,24,25] [0,1] [] .z)) (.d [0,1,2,3,4,5,6,7,8,9,10,11,12,13,14,15,16,17,18,19,20,21,22,23,24,25] [0,1] [] .z))) (.d [0,1,2,3,4,5,6,7,8,9,10,11,12,13,14,15,16,17,18,19,20,21,22,23,24,25] [0] [] .z))) (.i (.g [0,4,5] [0,8] [] [] (.o (.o (.d [0,1,3,4,2,5,6] [0,1] [] .z)))) (.i (.g [4,5] [0,8] [] [] (.o (.dz [0,1,3,4,2,5,6] [0,1] [1048649] [] .z))) (.i (.g [4,5] [0,8] [] [] (.o (.i (.o (.dz [0,2,3,4,5,6,7,8,1,9,10] [0,1] [1048655] [] .z)) (.dz [0,2,3,4,5,6,7,8,1,9,10] [0,1] [1048655] [] .z)))) .z)))))))))
instance W4s:∀ (n:Nat) (p0:(List Q3)),Ct (Q6p n p0) fun res=>Z1 Tryz.prog 0o00111 [(.slice 9 (List.map X9 p0))] (fun d=>d=(.slice 8 (List.map Q21 res))):=
 au Tryz.func73 Q6p.eq_1 (.o (.o (.ls 0 (.f [3] [8] [0,3,4] [8] (fun (k4976:Nat) (s4972:(List X0))=>[(3,.sl 8 8 (s4972).length),(4,eI (k4976:Int))]) (fun k4976 s4972=>[(8,some ⟨8,(List.map Q21 s4972),0,0x0038⟩)]) (fun k4976 s4972=>.o (.o (.ll 74 (.f [0,3,4,6] [0] [0,3,4,5,6,7] [0,74] (fun (k5851:Nat) (s5847:(List X0))=>[(3,.sl 8 0 (s5847).length),(7,eI (k5851:Int))]) (fun k5851 s5847=>[(0,some ⟨8,(List.map Q21 s5847),0,0x0038⟩)]) (fun k5851 s5847=>.o (.o (.o (.o (.o (.w [0,3,4,5,6,7] [194,1] [0,3,4,5,6,7,9] [194,1] (fun (s5909:(List X0)×Int)=>[(3,.sl 8 194 (s5909.1).length),(9,eI s5909.2)]) (fun s5909=>[(194,some ⟨8,(List.map Q21 s5909.1),0,0x0038⟩)]) (fun s5909=>.z) (fun s5917=>.z))))))) (fun s5855=>.w [0,3,4] [0] [0,3,4,10] [0] (fun (s5949:(List X0)×Int)=>[(3,.sl 8 0 (s5949.1).length),(10,eI s5949.2)]) (fun s5949=>[(0,some ⟨8,(List.map Q21 s5949.1),0,0x0038⟩)]) (fun s5949=>.i (.j 20 0 [0,3,4,10] [0] (fun (s5963:(List X0))=>[(3,.sl 8 0 (s5963).length)]) (fun s5963=>[(0,some ⟨8,(List.map Q21 s5963),0,0x0038⟩)]) .z (fun _=>.z)) .z) (fun s5957=>.z)))))) (fun s4980=>.z)))))
instance V3u:∀ (n:Nat) (p0:(List Q3)) (p1:(List X0)) (p2:Q1),Ct (Q4u n p0 p1 p2) fun res=>Z1 Tryz.prog 0o00037 [(.slice 9 (List.map X9 p0)),(.slice 8 (List.map Q21 p1)),(.agg (X2 p2))] (fun d=>d=.tup [(eI res.1),(.slice 4 (List.map Q5n res.2.1)),(.slice 1 (List.map (rL 1 rI) res.2.2))]):=
 au Tryz.func31 Q4u.eq_1 (.o (.o (.o (.o (.w [10] [40] [0,1,5,9,10] [0,40] (fun (s53:Int×(List (List Int)))=>[(9,eI s53.1),(10,.sl 1 40 (s53.2).length)]) (fun s53=>[(40,some ⟨1,(List.map (rL 1 rI) s53.2),0,0x0023⟩)]) (fun s53=>.o (.i (.i .z (.b fun (x82:(List (List Int)))=>.g [0,1,5,9,10,11] [0,154,82] [(10,.sl 1 154 (x82).length)] [(154,some ⟨1,(List.map (rL 1 rI) x82),0,0x0023⟩)] (.o (.o (.d [0,1,2,3,4,5] [0,2] [] .z))))) .z)) (fun s61=>.z))))))
instance X40:∀ (p0:Q2) (p1:Q2),Ct (Q02 p0 p1) fun res=>Z1 Tryz.prog 0o00257 [(.agg (Z0 p0)),(.agg (Z0 p1))] (fun d=>d=(eI res)):=
 au Tryz.func175 Q02.eq_1 .z
instance W50:∀ (p0:Z3) (q0:Q1),Ct (Q3i p0 q0) fun res=>Z1 Tryz.prog 0o00124 [(.agg (Q04 p0)),.cptr (X2 q0)] (fun d=>d=(eB res)):=
 au Tryz.func84 Q3i.eq_1 .z
end Go.Proofs.YtgjpamkllimhdaaGreat
