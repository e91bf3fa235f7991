import Derived.Test.YtjgapphpbkapmaaGreatNJC0b0
import Derived.Test.YtjgapphpbkapmaaGreatNJC0d0
import Derived.Test.YtjgapphpbkapmaaGreatNJC0a0
import Derived.Test.YtjgapphpbkapmaaGreatNJC0c0
set_option linter.unusedSimpArgs false
set_option linter.unusedVariables false
namespace Go.Proofs.YtjgapphpbkapmaaGreat
open Go Go.RowKit
set_option maxRecDepth 100000
set_option maxHeartbeats 20000000
instance W5u:∀ (p0:(List Q3)) (p1:Q5),Ct (Q9d p0 p1) fun res=>Z1 Tryz.prog 0o00366 [(.slice 2 (List.map W2 p0)),(.agg (W1 p1))] (fun d=>d=(eB res)):=
 au Tryz.func246 Q9d.eq_1 .z
instance Z5y:∀ (p0:(List Q6)) (p1:Q6),Ct (Q02 p0 p1) fun res=>Z1 Tryz.prog 0o00350 [(.slice 3 (List.map V1 p0)),(.agg (V1 p1))] (fun d=>d=(eB res)):=
 au Tryz.func232 Q02.eq_1 .z
instance W5q:∀ (n:Nat) (p0:Q0),Ct (Q1p n p0) fun res=>J2 Tryz.prog 0o00165 [] [(.agg (Q7 p0))] (fun H d=>H=[some ⟨6,List.map Q7 res,0,0x0060⟩]∧d=.sl 6 0 res.length):=
 ar (au Tryz.func117 Q1p.eq_2 (.o (.o (.o (.i (.g [1] [0] [] [] (.o (.o (.o (.o (.o (.d [0,1,2,3,5,6,7,8,4,9,10,11] [0] [] .z))))))) (.ls 29 (.f [4] [88] [4,33,34,35] [88] (fun (k5018:Nat) (s5014:(List Q0))=>[(4,.sl 6 88 (s5014).length),(35,eI (k5018:Int))]) (fun k5018 s5014=>[(88,some ⟨6,(List.map Q7 s5014),0,0x0060⟩)]) (fun k5018 s5014=>.o (.o (.pN 8 6 0x0060 (.ll 0 (.f [8,33,34,35] [97] [7,8,33,34,35,41,42,43] [50,97,0] (fun (k5936:Nat) (s5932:(List Q0))=>[(8,.sl 6 97 (s5932).length),(43,eI (k5936:Int))]) (fun k5936 s5932=>[(97,some ⟨6,(List.map Q7 s5932),0,0x0060⟩)]) (fun k5936 s5932=>.o (.ll 0 (.f [7,8,33,34,35,41,42,43] [0,1,2] [7,8,10,33,34,35,41,42,43,47,48,49] [0,1,27,2] (fun (k6006:Nat) (s6002:(List Q0))=>[(8,.sl 6 1 (s6002).length),(49,eI (k6006:Int))]) (fun k6006 s6002=>[(1,some ⟨6,(List.map Q7 s6002),0,0x0060⟩)]) (fun k6006 s6002=>.o (.g [7,8,10,12,13,33,34,35,41,42,43,47,48,49] [0,1,2,28,52,3] [] [] (.o (.o (.dz [0,1,3,2,4,5,6,7] [2,3] [1048634] [] (.o (.pF 2097160 .z))))))) (fun s6010=>.z)))) (fun s5940=>.z)))))) (fun s5022=>.z))))))))
instance X72:∀ (n:Nat) (p0:Grow) (p1:Q0) (p2:(List Int)),Ct (Q1d n p0 p1 p2) fun res=>J2 Tryz.prog 0o00071 [] [(.agg (Q37 p0)),(.agg (Q7 p1)),(.slice 1 (List.map rI p2))] (fun H d=>H=[some ⟨6,List.map Q7 res.pats,0,0x0060⟩]∧d=.agg [(eI res.clause),.sl 6 0 res.pats.length,(.slice 2 (List.map Q8 res.binds))]):=
 au Tryz.func57 Q1d.eq_1 (.o (.b fun (p0:Grow)=>.o (.o (.w [3,4,6] [0,8,16] [2,3,4,6] [0,8,16] (fun (s42:(List Q1)×Q0)=>[]) (fun s42=>[(0,some ⟨3,[[(eI p0.clause),(.slice 6 (List.map Q7 p0.pats)),(.slice 2 (List.map Q8 s42.1))]],0,0x0062⟩),(8,some ⟨6,[(Q7 s42.2)],0,0x0060⟩)]) (fun s42=>.j 1 0 [2,3,4,6] [0,1,2] (fun (s56:Unit)=>[]) (fun _=>[]) .z (fun s56=>.g [2,3,4,6] [0,1,2] [] [] (.o (.o (.o (.d [0,1,3,4,5,2,6,7,8,9,10,11] [0,1] [25] (.i (.o (.pF 12 (.pF 27 .z))) (.o (.pF 12 (.pF 27 .z)))))))))) (fun s50=>.g [3,4,6] [0,1,2] [] [] (.o (.o (.dz [0,1,3,2,4,5,6,7] [0,1] [1048614] [40] .z))))))))
instance X3w:∀ (p0:(List ByteArray)) (p1:ByteArray),Ct (Q5e p0 p1) fun res=>Z1 Tryz.prog 0o00454 [(.slice 1 (List.map rS p0)),(eS p1)] (fun d=>d=(.agg (W1 res))):=
 au Tryz.func300 Q5e.eq_1 (.o (.o (.i .z (.o (.b fun (r4:(Int))=>.j 4 0 [4,5] [0,64] (fun (s18:Int)=>[]) (fun s18=>[(64,some ⟨2,[[(eI r4),(eI s18)]],0,0x0019⟩)]) .z (fun _=>.z))))))
instance X70:∀ (n:Nat) (p0:ByteArray),Ct (Q6c n p0) fun res=>Z1 Tryz.prog 0o00441 [(eS p0)] (fun d=>d=(eB res)):=
 au Tryz.func289 Q6c.eq_1 (.o (.o (.i .z (.i .z (.o (.o (.i .z (.w [] [] [0,3] [] (fun (s132:Int)=>[(3,eI s132)]) (fun s132=>[]) (fun s132=>.z) (fun s140=>.z)))))))))
instance W3r:∀ (p0:(List Q3)) (p1:Q5) (p2:Int),Ct (Q04 p0 p1 p2) fun res=>Z1 Tryz.prog 0o00262 [(.slice 2 (List.map W2 p0)),(.agg (W1 p1)),(eI p2)] (fun d=>d=(.slice 2 (List.map W1 res))):=
 au Tryz.func178 Q04.eq_1 (.o (.o (.o (.o (.b fun (x2:Q67)=>.lc 104 1 2 W1 x2.args (.f [7] [16] [4,7,8,9] [0,16,104] (fun (k118:Nat) (s114:(List Q5))=>[(7,.sl 2 16 (s114).length),(9,eI (k118:Int))]) (fun k118 s114=>[(16,some ⟨2,(List.map W1 s114),0,0x0019⟩)]) (fun k118 s114=>.b fun (x119:Q5)=>.j 7 0 [4,7,8,9,10] [0,1,2,83] (fun (s133:Int)=>[]) (fun s133=>[(83,some ⟨2,[[(eI x119.data),(eI s133)]],0,0x0019⟩)]) .z (fun _=>.z)) (fun s122=>.z)))))))
instance W1r:∀ (p0:Int) (p1:Int) (p2:Int) (p3:Z2),Ct (Q4m p0 p1 p2 p3) fun res=>Z1 Tryz.prog 0o00134 [(eI p0),(eI p1),(eI p2),(.agg (V2 p3))] (fun d=>d=(eB res)):=
 au Tryz.func92 Q4m.eq_1 .z
instance W3z:∀ (p0:(List Q1)) (p1:Int),Ct (Q5k p0 p1) fun res=>Z1 Tryz.prog 0o00220 [(.slice 2 (List.map Q8 p0)),(eI p1)] (fun d=>d=(.slice 1 (List.map rI res))):=
 au Tryz.func144 Q5k.eq_1 .z
end Go.Proofs.YtjgapphpbkapmaaGreat
