import Derived.Test.YtenmmbjgnlflnaaGreatBJC1c0
import Derived.Test.YtenmmbjgnlflnaaGreatBJC1b0
import Derived.Test.YtenmmbjgnlflnaaGreatBJC1a0
set_option linter.unusedSimpArgs false
set_option linter.unusedVariables false
namespace Go.Proofs.YtenmmbjgnlflnaaGreat
open Go Go.RowKit
set_option maxRecDepth 100000
set_option maxHeartbeats 20000000
instance V3o:∀ (n:Nat) (p0:Int) (p1:Q96),Ct (Z2b n p0 p1) fun res=>Q7 Tryz.prog 0o00254 [(eI p0),(.agg (Q8c p1))] (fun d=>d=(eB res)):=
 au Tryz.func172 Z2b.eq_1 (.o (.o (.o (.o (.i .z (.i .z (.i .z (.i .z (.ls 12 (.f [] [] [0,3,5] [0] (fun (k82:Nat) (s78:Unit)=>[(5,eI (k82:Int))]) (fun k82 s78=>[]) (fun k82 s78=>.z) (fun s86=>.z)))))))))))
instance V61:∀ (p0:(List Q4)) (p1:Q2) (p2:Q0),Ct (Q92 p0 p1 p2) fun res=>Q7 Tryz.prog 0o00530 [(.slice 2 (List.map Z8 p0)),(.agg (Z7 p1)),(.agg (Q3 p2))] (fun d=>d=(eB res)):=
 au Tryz.func344 Q92.eq_1 (.o (.o (.o (.e (.j 1 0 [0,4,5,7] [0,8] (fun (s2:Bool)=>[(7,eB s2)]) (fun _=>[]) .z (fun s2=>.j 2 0 [0,4,5] [0,1] (fun (s17:Unit)=>[]) (fun _=>[]) .z (fun s17=>.j 4 0 [0,4,5] [0,1] (fun (s50:Unit)=>[]) (fun _=>[]) .z (fun s50=>.j 7 0 [0,4,5,60,61] [0,1] (fun (s95:Bool)=>[(61,eB s95)]) (fun _=>[]) .z (fun s95=>.i .z (.i .z (.i (.g [0,4,5] [0,1] [] [] (.o (.o (.d [0,1,3,4,2,5,6] [0,1] [] .z)))) .z)))))))))))
instance V3f:∀ (p0:(List Q4)) (p1:Q2) (p2:ByteArray),Ct (Q9p p0 p1 p2) fun res=>Q7 Tryz.prog 0o00537 [(.slice 2 (List.map Z8 p0)),(.agg (Z7 p1)),(eS p2)] (fun d=>d=(eI res)):=
 au Tryz.func351 Q9p.eq_1 (.o (.o (.o (.o (.ls 11 (.f [] [] [0,2,4,7,8] [0] (fun (k65:Nat) (s61:Unit)=>[(8,eI (k65:Int))]) (fun k65 s61=>[]) (fun k65 s61=>.o (.g [0,2,4,7,8] [0] [] [] (.o (.o (.d [0,1,2,3,4,5,6,7,8,9,10,11,12,13,14] [0] [] .z))))) (fun s69=>.z)))))))
instance W8j:∀ (n:Nat) (p0:X3) (p1:Q1),Ct (Q3z n p0 p1) fun res=>Q12 Tryz.prog 0o00126 [⟨2,[(Q01 p0)],0,0x00d7⟩] [.ptr 2 0 0 0,(.agg (X0 p1))] (fun H d=>H=[some ⟨2,[(Q01 res.2)],0,0x00d7⟩]∧d=(.agg (X0 res.1))):=
 ar (au Tryz.func86 Q3z.eq_2 (.o (.o (.o (.b fun (p1:Q1)=>.g [0,3,4] [0,1,9] [] [] (.o (.dz [0,1,2,3,5,6,4,7,8,9,10] [1] [1048581] [] (.j 2 0 [4,5] [0,2,1048581,2097160] (fun (s15:X3×Int×Int×(List Q1))=>[]) (fun s15=>[(0,some ⟨2,[(Q01 s15.1)],0,0x00d7⟩),(1001048581,some ⟨3,[[(eI s15.2.1),(eI s15.2.2.1),(.sl 3 2097160 (s15.2.2.2).length)]],0,0x001b⟩),(2097160,some ⟨3,(List.map X0 s15.2.2.2),0,0x001b⟩)]) (.o (.i .z (.i .z (.i .z (.i (.i (.g [0,4,5] [0,2,1048581,2097160] [] [(1001048581,some ⟨3,[[(eI p1.ctor),(eI p1.n),(.sl 3 2097160 (p1.kids).length)]],0,0x001b⟩)] (.o (.o (.o (.o (.d [0,1,2,3,4,5,6,7,8,9,10,11] [2,3] [53] .z)))))) .z) .z))))) (fun _=>.pF 3 .z)))))))))
instance V6c:∀ (p0:(List Q4)) (p1:Q2) (p2:Q0),Ct (Q85 p0 p1 p2) fun res=>Q7 Tryz.prog 0o00441 [(.slice 2 (List.map Z8 p0)),(.agg (Z7 p1)),(.agg (Q3 p2))] (fun d=>d=.tup [(.slice 2 (List.map Z7 res.1)),(eB res.2)]):=
 au Tryz.func289 Q85.eq_1 (.o (.o (.o (.i .z (.i .z (.i (.g [4,5] [0,8] [] [] (.i (.o (.i (.i (.i (.d [0,1,2,3,4,5,6,7,8,9,10,11,12,13,14,15,16,17,18,19,20,21,22,23,24,25] [0,1] [] .z) (.d [0,1,2,3,4,5,6,7,8,9,10,11,12,13,14,15,16,17,18,19,20,21,22,23,24,25] [0,1] [] .z)) (.d [0,1,2,3,4,5,6,7,8,9,10,11,12,13,14,15,16,17,18,19,20,21,22,23,24,25] [0,1] [] .z)) (.d [0,1,2,3,4,5,6,7,8,9,10,11,12,13,14,15,16,17,18,19,20,21,22,23,24,25] [0,1] [] .z))) (.d [0,1,2,3,4,5,6,7,8,9,10,11,12,13,14,15,16,17,18,19,20,21,22,23,24,25] [0] [] .z))) (.i (.g [0,4,5] [0,8] [] [] (.o (.o (.d [0,1,3,4,2,5,6] [0,1] [] .z)))) (.i (.g [4,5] [0,8] [] [] (.o (.dz [0,1,3,4,2,5,6] [0,1] [1048649] [] .z))) (.i (.g [4,5] [0,8] [] [] (.o (.i (.o (.dz [0,2,3,4,5,6,7,8,1,9,10] [0,1] [1048655] [] .z)) (.dz [0,2,3,4,5,6,7,8,1,9,10] [0,1] [1048655] [] .z)))) .z)))))))))
instance W4f:∀ (p0:Q5) (q0:(List Q5)),Ct (Q74 p0 q0) fun res=>Q7 Tryz.prog 0o00512 [(.agg (X6 p0)),.cptr [(.slice 3 (List.map X6 q0))]] (fun d=>d=(eB res)):=
 au Tryz.func330 Q74.eq_1 .z
instance V1z:∀ (p0:Q4u) (p1:(List Q5)),Ct (Q7j p0 p1) fun res=>Q7 Tryz.prog 0o00346 [(.agg (Q8q p0)),(.slice 3 (List.map X6 p1))] (fun d=>d=(eB res)):=
 au Tryz.func230 Q7j.eq_1 .z
end Go.Proofs.YtenmmbjgnlflnaaGreat
