import Derived.Test.YtjgapphpbkapmaaGreatJC0b0
import Derived.Test.YtjgapphpbkapmaaGreatJC0a0
import Derived.Test.YtjgapphpbkapmaaGreatJC0d0
import Derived.Test.YtjgapphpbkapmaaGreatJC0c0
set_option linter.unusedSimpArgs false
set_option linter.unusedVariables false
namespace Go.Proofs.YtjgapphpbkapmaaGreat
open Go Go.RowKit
set_option maxRecDepth 100000
set_option maxHeartbeats 20000000
instance W98:∀ (p0:ByteArray),Ct (Z08 p0) fun res=>Z2 Tryz.prog 0o00401 [(eS p0)] (fun d=>d=(eB res)):=
 au Tryz.func257 Z08.eq_1 .z
instance W28:∀ (n:Nat) (p0:ByteArray),Ct (Q7w n p0) fun res=>Z2 Tryz.prog 0o00441 [(eS p0)] (fun d=>d=(eB res)):=
 au Tryz.func289 Q7w.eq_1 (.o (.o (.i .z (.i .z (.o (.o (.i .z (.w [] [] [0,3] [] (fun (s132:Int)=>[(3,eI s132)]) (fun s132=>[]) (fun s132=>.z) (fun s140=>.z)))))))))
instance W6w:∀ (p0:(List Q3)) (p1:Q4),Ct (Q0s p0 p1) fun res=>Z2 Tryz.prog 0o00261 [(.slice 2 (List.map W2 p0)),(.agg (W0 p1))] (fun d=>d=(.slice 1 (List.map rI res))):=
 au Tryz.func177 Q0s.eq_1 (.o (.o (.i .z (.b fun (x115:Q3)=>.le 0 1 3 Q6m x115.ctors x115 (.f [5] [16] [0,3,5,6] [0,16] (fun (k149:Nat) (s145:(List Int))=>[(5,.sl 1 16 (s145).length),(6,eI (k149:Int))]) (fun k149 s145=>[(16,some ⟨1,(List.map rI s145),0,0x0003⟩)]) (fun k149 s145=>.o (.j 7 0 [0,3,5,6] [0,1] (fun (s157:(List Int))=>[(5,.sl 1 1 (s157).length)]) (fun s157=>[(1,some ⟨1,(List.map rI s157),0,0x0003⟩)]) (.g [0,3,5,6] [0,1] [] [] (.o (.d [0,1,2,3,4,5,6,7,8,9,10,11] [0] [] .z))) (fun _=>.z))) (fun s153=>.z))))))
instance W2h:∀ (n:Nat) (p0:ByteArray),Ct (Q7x n p0) fun res=>Z2 Tryz.prog 0o00364 [(eS p0)] (fun d=>d=(eB res)):=
 au Tryz.func244 Q7x.eq_1 (.o (.o (.o (.i .z (.o (.i .z (.i .z (.w [] [] [0,3] [] (fun (s132:Int)=>[(3,eI s132)]) (fun s132=>[]) (fun s132=>.z) (fun s140=>.z)))))))))
instance Z9f:∀ (p0:(List Z1)) (p1:Z1),Ct (Q0f p0 p1) fun res=>Z2 Tryz.prog 0o00350 [(.slice 3 (List.map Y2 p0)),(.agg (Y2 p1))] (fun d=>d=(eB res)):=
 au Tryz.func232 Q0f.eq_1 .z
instance V1i:∀ (n:Nat) (p0:Q0),Ct (Q2w n p0) fun res=>J0 Tryz.prog 0o00165 [] [(.agg (Z0 p0))] (fun H d=>H=[some ⟨6,List.map Z0 res,0,0x0060⟩]∧d=.sl 6 0 res.length):=
 ar (au Tryz.func117 Q2w.eq_2 (.o (.o (.o (.i (.g [1] [0] [] [] (.o (.o (.o (.o (.o (.d [0,1,2,3,5,6,7,8,4,9,10,11] [0] [] .z))))))) (.ls 29 (.f [4] [88] [4,33,34,35] [88] (fun (k5018:Nat) (s5014:(List Q0))=>[(4,.sl 6 88 (s5014).length),(35,eI (k5018:Int))]) (fun k5018 s5014=>[(88,some ⟨6,(List.map Z0 s5014),0,0x0060⟩)]) (fun k5018 s5014=>.o (.o (.pN 8 6 0x0060 (.ll 0 (.f [8,33,34,35] [97] [7,8,33,34,35,41,42,43] [50,97,0] (fun (k5936:Nat) (s5932:(List Q0))=>[(8,.sl 6 97 (s5932).length),(43,eI (k5936:Int))]) (fun k5936 s5932=>[(97,some ⟨6,(List.map Z0 s5932),0,0x0060⟩)]) (fun k5936 s5932=>.o (.ll 0 (.f [7,8,33,34,35,41,42,43] [0,1,2] [7,8,10,33,34,35,41,42,43,47,48,49] [0,1,27,2] (fun (k6006:Nat) (s6002:(List Q0))=>[(8,.sl 6 1 (s6002).length),(49,eI (k6006:Int))]) (fun k6006 s6002=>[(1,some ⟨6,(List.map Z0 s6002),0,0x0060⟩)]) (fun k6006 s6002=>.o (.g [7,8,10,12,13,33,34,35,41,42,43,47,48,49] [0,1,2,28,52,3] [] [] (.o (.o (.dz [0,1,3,2,4,5,6,7] [2,3] [1048634] [] (.o (.pF 2097160 .z))))))) (fun s6010=>.z)))) (fun s5940=>.z)))))) (fun s5022=>.z))))))))
instance W2b:∀ (n:Nat) (p0:Grow) (p1:Q0) (p2:(List Int)),Ct (Q2l n p0 p1 p2) fun res=>J0 Tryz.prog 0o00071 [] [(.agg (Q4b p0)),(.agg (Z0 p1)),(.slice 1 (List.map rI p2))] (fun H d=>H=[some ⟨6,List.map Z0 res.pats,0,0x0060⟩]∧d=.agg [(eI res.clause),.sl 6 0 res.pats.length,(.slice 2 (List.map Z3 res.binds))]):=
 au Tryz.func57 Q2l.eq_1 (.o (.b fun (p0:Grow)=>.o (.o (.w [3,4,6] [0,8,16] [2,3,4,6] [0,8,16] (fun (s42:(List Q2)×Q0)=>[]) (fun s42=>[(0,some ⟨3,[[(eI p0.clause),(.slice 6 (List.map Z0 p0.pats)),(.slice 2 (List.map Z3 s42.1))]],0,0x0062⟩),(8,some ⟨6,[(Z0 s42.2)],0,0x0060⟩)]) (fun s42=>.j 1 0 [2,3,4,6] [0,1,2] (fun (s56:Unit)=>[]) (fun _=>[]) .z (fun s56=>.g [2,3,4,6] [0,1,2] [] [] (.o (.o (.o (.d [0,1,3,4,5,2,6,7,8,9,10,11] [0,1] [25] (.i (.o (.pF 12 (.pF 27 .z))) (.o (.pF 12 (.pF 27 .z)))))))))) (fun s50=>.g [3,4,6] [0,1,2] [] [] (.o (.o (.dz [0,1,3,2,4,5,6,7] [0,1] [1048614] [40] .z))))))))
instance W77:∀ (p0:Int) (p1:Int) (p2:Int) (p3:Q1),Ct (Q60 p0 p1 p2 p3) fun res=>Z2 Tryz.prog 0o00134 [(eI p0),(eI p1),(eI p2),(.agg (X1 p3))] (fun d=>d=(eB res)):=
 au Tryz.func92 Q60.eq_1 .z
instance W9j:∀ (p0:(List Q2)) (p1:Int),Ct (Q6x p0 p1) fun res=>Z2 Tryz.prog 0o00220 [(.slice 2 (List.map Z3 p0)),(eI p1)] (fun d=>d=(.slice 1 (List.map rI res))):=
 au Tryz.func144 Q6x.eq_1 .z
end Go.Proofs.YtjgapphpbkapmaaGreat
