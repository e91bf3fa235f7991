import Derived.Test.YtenmmbjgnlflnaaGreatJC1c0
import Derived.Test.YtenmmbjgnlflnaaGreatJC1b0
import Derived.Test.YtenmmbjgnlflnaaGreatJC1a0
set_option linter.unusedSimpArgs false
set_option linter.unusedVariables false
namespace Go.Proofs.YtenmmbjgnlflnaaGreat
open Go Go.RowKit
set_option maxRecDepth 100000
set_option maxHeartbeats 20000000
instance W3k:∀ (n:Nat) (p0:Int) (p1:Q64),Ct (Q8r n p0 p1) fun res=>Q6 Tryz.prog 0o00254 [(eI p0),(.agg (Q54 p1))] (fun d=>d=(eB res)):=
 au Tryz.func172 Q8r.eq_1 (.o (.o (.o (.o (.i .z (.i .z (.i .z (.i .z (.ls 12 (.f [] [] [0,3,5] [0] (fun (k82:Nat) (s78:Unit)=>[(5,eI (k82:Int))]) (fun k82 s78=>[]) (fun k82 s78=>.z) (fun s86=>.z)))))))))))
instance W5p:∀ (p0:(List Q2)) (p1:Q3) (p2:Q5),Ct (Q5y p0 p1 p2) fun res=>Q6 Tryz.prog 0o00530 [(.slice 2 (List.map Z5 p0)),(.agg (Z6 p1)),(.agg (X7 p2))] (fun d=>d=(eB res)):=
 au Tryz.func344 Q5y.eq_1 (.o (.o (.o (.e (.j 1 0 [0,4,5,7] [0,8] (fun (s2:Bool)=>[(7,eB s2)]) (fun _=>[]) .z (fun s2=>.j 2 0 [0,4,5] [0,1] (fun (s17:Unit)=>[]) (fun _=>[]) .z (fun s17=>.j 4 0 [0,4,5] [0,1] (fun (s50:Unit)=>[]) (fun _=>[]) .z (fun s50=>.j 7 0 [0,4,5,60,61] [0,1] (fun (s95:Bool)=>[(61,eB s95)]) (fun _=>[]) .z (fun s95=>.i .z (.i .z (.i (.g [0,4,5] [0,1] [] [] (.o (.o (.d [0,1,3,4,2,5,6] [0,1] [] .z)))) .z)))))))))))
instance W3b:∀ (p0:(List Q2)) (p1:Q3) (p2:ByteArray),Ct (Q6l p0 p1 p2) fun res=>Q6 Tryz.prog 0o00537 [(.slice 2 (List.map Z5 p0)),(.agg (Z6 p1)),(eS p2)] (fun d=>d=(eI res)):=
 au Tryz.func351 Q6l.eq_1 (.o (.o (.o (.o (.ls 11 (.f [] [] [0,2,4,7,8] [0] (fun (k65:Nat) (s61:Unit)=>[(8,eI (k65:Int))]) (fun k65 s61=>[]) (fun k65 s61=>.o (.g [0,2,4,7,8] [0] [] [] (.o (.o (.d [0,1,2,3,4,5,6,7,8,9,10,11,12,13,14] [0] [] .z))))) (fun s69=>.z)))))))
instance X9g:∀ (n:Nat) (p0:X3) (p1:Q0),Ct (Q1u n p0 p1) fun res=>Q0o Tryz.prog 0o00126 [⟨2,[(J8 p0)],0,0x00d7⟩] [.ptr 2 0 0 0,(.agg (Z2 p1))] (fun H d=>H=[some ⟨2,[(J8 res.2)],0,0x00d7⟩]∧d=(.agg (Z2 res.1))):=
 ar (au Tryz.func86 Q1u.eq_2 (.o (.o (.o (.b fun (p1:Q0)=>.g [0,3,4] [0,1,9] [] [] (.o (.dz [0,1,2,3,5,6,4,7,8,9,10] [1] [1048581] [] (.j 2 0 [4,5] [0,2,1048581,2097160] (fun (s15:X3×Int×Int×(List Q0))=>[]) (fun s15=>[(0,some ⟨2,[(J8 s15.1)],0,0x00d7⟩),(1001048581,some ⟨3,[[(eI s15.2.1),(eI s15.2.2.1),(.sl 3 2097160 (s15.2.2.2).length)]],0,0x001b⟩),(2097160,some ⟨3,(List.map Z2 s15.2.2.2),0,0x001b⟩)]) (.o (.i .z (.i .z (.i .z (.i (.i (.g [0,4,5] [0,2,1048581,2097160] [] [(1001048581,some ⟨3,[[(eI p1.ctor),(eI p1.n),(.sl 3 2097160 (p1.kids).length)]],0,0x001b⟩)] (.o (.o (.o (.o (.d [0,1,2,3,4,5,6,7,8,9,10,11] [2,3] [53] .z)))))) .z) .z))))) (fun _=>.pF 3 .z)))))))))
instance W5x:∀ (p0:(List Q2)) (p1:Q3) (p2:Q5),Ct (Q61 p0 p1 p2) fun res=>Q6 Tryz.prog 0o00441 [(.slice 2 (List.map Z5 p0)),(.agg (Z6 p1)),(.agg (X7 p2))] (fun d=>d=.tup [(.slice 2 (List.map Z6 res.1)),(eB res.2)]):=
 au Tryz.func289 Q61.eq_1 (.o (.o (.o (.i .z (.i .z (.i (.g [4,5] [0,8] [] [] (.i (.o (.i (.i (.i (.d [0,1,2,3,4,5,6,7,8,9,10,11,12,13,14,15,16,17,18,19,20,21,22,23,24,25] [0,1] [] .z) (.d [0,1,2,3,4,5,6,7,8,9,10,11,12,13,14,15,16,17,18,19,20,21,22,23,24,25] [0,1] [] .z)) (.d [0,1,2,3,4,5,6,7,8,9,10,11,12,13,14,15,16,17,18,19,20,21,22,23,24,25] [0,1] [] .z)) (.d [0,1,2,3,4,5,6,7,8,9,10,11,12,13,14,15,16,17,18,19,20,21,22,23,24,25] [0,1] [] .z))) (.d [0,1,2,3,4,5,6,7,8,9,10,11,12,13,14,15,16,17,18,19,20,21,22,23,24,25] [0] [] .z))) (.i (.g [0,4,5] [0,8] [] [] (.o (.o (.d [0,1,3,4,2,5,6] [0,1] [] .z)))) (.i (.g [4,5] [0,8] [] [] (.o (.dz [0,1,3,4,2,5,6] [0,1] [1048649] [] .z))) (.i (.g [4,5] [0,8] [] [] (.o (.i (.o (.dz [0,2,3,4,5,6,7,8,1,9,10] [0,1] [1048655] [] .z)) (.dz [0,2,3,4,5,6,7,8,1,9,10] [0,1] [1048655] [] .z)))) .z)))))))))
instance X65:∀ (p0:Q1) (q0:(List Q1)),Ct (Q48 p0 q0) fun res=>Q6 Tryz.prog 0o00512 [(.agg (Z8 p0)),.cptr [(.slice 3 (List.map Z8 q0))]] (fun d=>d=(eB res)):=
 au Tryz.func330 Q48.eq_1 .z
instance W25:∀ (p0:Q2i) (p1:(List Q1)),Ct (Q4j p0 p1) fun res=>Q6 Tryz.prog 0o00346 [(.agg (Q5j p0)),(.slice 3 (List.map Z8 p1))] (fun d=>d=(eB res)):=
 au Tryz.func230 Q4j.eq_1 .z
end Go.Proofs.YtenmmbjgnlflnaaGreat
