import Derived.Test.YtgjpamkllimhdaaGreatJC0c0
import Derived.Test.YtgjpamkllimhdaaGreatJC0b0
import Derived.Test.YtgjpamkllimhdaaGreatJC0d0
import Derived.Test.YtgjpamkllimhdaaGreatJC0a0
set_option linter.unusedSimpArgs false
set_option linter.unusedVariables false
namespace Go.Proofs.YtgjpamkllimhdaaGreat
open Go Go.RowKit
set_option maxRecDepth 100000
set_option maxHeartbeats 20000000
instance V1w:∀ (p0:ByteArray),Ct (Z18 p0) fun res=>Z1 Tryz.prog 0o00275 [(eS p0)] (fun d=>d=(eB res)):=
 au Tryz.func189 Z18.eq_1 .z
instance V1y:∀ (p0:(List Q4)) (p1:Q6) (p2:Int),Ct (Q0m p0 p1 p2) fun res=>Z1 Tryz.prog 0o00175 [(.slice 2 (List.map W1 p0)),(.agg (W0 p1)),(eI p2)] (fun d=>d=(.slice 2 (List.map W0 res))):=
 au Tryz.func125 Q0m.eq_1 (.o (.o (.o (.o (.b fun (x2:Q8g)=>.lc 104 1 2 W0 x2.args (.f [7] [16] [4,7,8,9] [0,16,104] (fun (k118:Nat) (s114:(List Q6))=>[(7,.sl 2 16 (s114).length),(9,eI (k118:Int))]) (fun k118 s114=>[(16,some ⟨2,(List.map W0 s114),0,0x0019⟩)]) (fun k118 s114=>.b fun (x119:Q6)=>.j 7 0 [4,7,8,9,10] [0,1,2,83] (fun (s133:Int)=>[]) (fun s133=>[(83,some ⟨2,[[(eI x119.data),(eI s133)]],0,0x0019⟩)]) .z (fun _=>.z)) (fun s122=>.z)))))))
instance W9p:∀ (p0:(List Int)) (p1:Q6),Ct (Q22 p0 p1) fun res=>Z1 Tryz.prog 0o00226 [(.slice 1 (List.map rI p0)),(.agg (W0 p1))] (fun d=>d=(eI res)):=
 au Tryz.func150 Q22.eq_1 .z
instance W9q:∀ (p0:(List Q4)) (p1:Q6),Ct (Q0w p0 p1) fun res=>Z1 Tryz.prog 0o00174 [(.slice 2 (List.map W1 p0)),(.agg (W0 p1))] (fun d=>d=(.slice 1 (List.map rI res))):=
 au Tryz.func124 Q0w.eq_1 (.o (.o (.i .z (.b fun (x115:Q4)=>.le 0 1 3 Q7d x115.ctors x115 (.f [5] [16] [0,3,5,6] [0,16] (fun (k149:Nat) (s145:(List Int))=>[(5,.sl 1 16 (s145).length),(6,eI (k149:Int))]) (fun k149 s145=>[(16,some ⟨1,(List.map rI s145),0,0x0003⟩)]) (fun k149 s145=>.o (.j 7 0 [0,3,5,6] [0,1] (fun (s157:(List Int))=>[(5,.sl 1 1 (s157).length)]) (fun s157=>[(1,some ⟨1,(List.map rI s157),0,0x0003⟩)]) (.g [0,3,5,6] [0,1] [] [] (.o (.d [0,1,2,3,4,5,6,7,8,9,10,11] [0] [] .z))) (fun _=>.z))) (fun s153=>.z))))))
instance Z84:∀ (p0:(List Q3)) (p1:(Q3→Option Bool)) {p1_f:FuncId} {p1_c:List D} [p1_i:CF1 (fun a0=>(.agg (X9 a0))) (fun r=>(eB r)) p1 p1_f p1_c],Ct (Q1f p0 p1) fun res=>Z1 Tryz.prog 0o00150 [(.slice 9 (List.map X9 p0)),.clos p1_f p1_c] (fun d=>d=(eB res)):=
 au Tryz.func104 Q1f.eq_1 .z
instance X6r:∀ (p0:(List Int)) (p1:Int),Ct (Q0c p0 p1) fun res=>Z1 Tryz.prog 0o00160 [(.slice 1 (List.map rI p0)),(eI p1)] (fun d=>d=(eB res)):=
 au Tryz.func112 Q0c.eq_1 .z
instance V48:∀ (p0:(List Q4)) (p1:Q6),Ct (Z2d p0 p1) fun res=>Z1 Tryz.prog 0o00325 [(.slice 2 (List.map W1 p0)),(.agg (W0 p1))] (fun d=>d=(eB res)):=
 au Tryz.func213 Z2d.eq_1 .z
instance V44:∀ (n:Nat) (p0:Q0),Ct (Q2s n p0) fun res=>Y8 Tryz.prog 0o00154 [] [(.agg (Q9 p0))] (fun H d=>H=[some ⟨6,List.map Q9 res,0,0x0046⟩]∧d=.sl 6 0 res.length):=
 ar (au Tryz.func108 Q2s.eq_2 (.o (.o (.o (.i (.g [1] [0] [] [] (.o (.o (.o (.o (.o (.d [0,1,2,3,5,6,7,8,4,9,10,11] [0] [] .z))))))) (.ls 29 (.f [4] [88] [4,33,34,35] [88] (fun (k5018:Nat) (s5014:(List Q0))=>[(4,.sl 6 88 (s5014).length),(35,eI (k5018:Int))]) (fun k5018 s5014=>[(88,some ⟨6,(List.map Q9 s5014),0,0x0046⟩)]) (fun k5018 s5014=>.o (.o (.pN 8 6 0x0046 (.ll 0 (.f [8,33,34,35] [97] [7,8,33,34,35,41,42,43] [50,97,0] (fun (k5936:Nat) (s5932:(List Q0))=>[(8,.sl 6 97 (s5932).length),(43,eI (k5936:Int))]) (fun k5936 s5932=>[(97,some ⟨6,(List.map Q9 s5932),0,0x0046⟩)]) (fun k5936 s5932=>.o (.ll 0 (.f [7,8,33,34,35,41,42,43] [0,1,2] [7,8,10,33,34,35,41,42,43,47,48,49] [0,1,27,2] (fun (k6006:Nat) (s6002:(List Q0))=>[(8,.sl 6 1 (s6002).length),(49,eI (k6006:Int))]) (fun k6006 s6002=>[(1,some ⟨6,(List.map Q9 s6002),0,0x0046⟩)]) (fun k6006 s6002=>.o (.g [7,8,10,12,13,33,34,35,41,42,43,47,48,49] [0,1,2,28,52,3] [] [] (.o (.o (.dz [0,1,3,2,4,5,6,7] [2,3] [1048634] [] (.o (.pF 2097160 .z))))))) (fun s6010=>.z)))) (fun s5940=>.z)))))) (fun s5022=>.z))))))))
instance W3k:∀ (p0:Int) (p1:Int),Ct (Q2z p0 p1) fun res=>Z1 Tryz.prog 0o00075 [(eI p0),(eI p1)] (fun d=>d=(eI res)):=
 au Tryz.func61 Q2z.eq_1 .z
instance W51:∀ (n:Nat) (p0:Grow) (p1:Q0) (p2:(List Int)),Ct (Q2g n p0 p1 p2) fun res=>Y8 Tryz.prog 0o00117 [] [(.agg (Q4x p0)),(.agg (Q9 p1)),(.slice 1 (List.map rI p2))] (fun H d=>H=[some ⟨6,List.map Q9 res.pats,0,0x0046⟩]∧d=.agg [(eI res.clause),.sl 6 0 res.pats.length,(.slice 2 (List.map Z0 res.binds))]):=
 au Tryz.func79 Q2g.eq_1 (.o (.b fun (p0:Grow)=>.o (.o (.w [3,4,6] [0,8,16] [2,3,4,6] [0,8,16] (fun (s42:(List Q2)×Q0)=>[]) (fun s42=>[(0,some ⟨3,[[(eI p0.clause),(.slice 6 (List.map Q9 p0.pats)),(.slice 2 (List.map Z0 s42.1))]],0,0x007b⟩),(8,some ⟨6,[(Q9 s42.2)],0,0x0046⟩)]) (fun s42=>.j 1 0 [2,3,4,6] [0,1,2] (fun (s56:Unit)=>[]) (fun _=>[]) .z (fun s56=>.g [2,3,4,6] [0,1,2] [] [] (.o (.o (.o (.d [0,1,3,4,5,2,6,7,8,9,10,11] [0,1] [25] (.i (.o (.pF 12 (.pF 27 .z))) (.o (.pF 12 (.pF 27 .z)))))))))) (fun s50=>.g [3,4,6] [0,1,2] [] [] (.o (.o (.dz [0,1,3,2,4,5,6,7] [0,1] [1048614] [40] .z))))))))
end Go.Proofs.YtgjpamkllimhdaaGreat
