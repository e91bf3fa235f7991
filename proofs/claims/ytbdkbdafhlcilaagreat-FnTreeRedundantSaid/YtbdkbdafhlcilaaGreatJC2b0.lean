import Derived.Test.YtbdkbdafhlcilaaGreatJC1a0
import Derived.Test.YtbdkbdafhlcilaaGreatJC1b0
import Derived.Test.YtbdkbdafhlcilaaGreatJC1d0
set_option linter.unusedSimpArgs false
set_option linter.unusedVariables false
namespace Go.Proofs.YtbdkbdafhlcilaaGreat
open Go Go.RowKit
set_option maxRecDepth 100000
set_option maxHeartbeats 20000000
instance V4r:∀ (p0:(List Q3)) (p1:Q2) (p2:Q0),Ct (Q73 p0 p1 p2) fun res=>Z1 Tryz.prog 0o00403 [(.slice 2 (List.map V0 p0)),(.agg (X9 p1)),(.agg (Q1 p2))] (fun d=>d=.tup [(.slice 2 (List.map X9 res.1)),(eB res.2)]):=
 au Tryz.func259 Q73.eq_1 (.o (.o (.o (.i .z (.i .z (.i (.g [4,5] [0,8] [] [] (.i (.o (.i (.i (.i (.d [0,1,2,3,4,5,6,7,8,9,10,11,12,13,14,15,16,17,18,19,20,21,22,23,24,25] [0,1] [] .z) (.d [0,1,2,3,4,5,6,7,8,9,10,11,12,13,14,15,16,17,18,19,20,21,22,23,24,25] [0,1] [] .z)) (.d [0,1,2,3,4,5,6,7,8,9,10,11,12,13,14,15,16,17,18,19,20,21,22,23,24,25] [0,1] [] .z)) (.d [0,1,2,3,4,5,6,7,8,9,10,11,12,13,14,15,16,17,18,19,20,21,22,23,24,25] [0,1] [] .z))) (.d [0,1,2,3,4,5,6,7,8,9,10,11,12,13,14,15,16,17,18,19,20,21,22,23,24,25] [0] [] .z))) (.i (.g [0,4,5] [0,8] [] [] (.o (.o (.d [0,1,3,4,2,5,6] [0,1] [] .z)))) (.i (.g [4,5] [0,8] [] [] (.o (.dz [0,1,3,4,2,5,6] [0,1] [1048649] [] .z))) (.i (.g [4,5] [0,8] [] [] (.o (.i (.o (.dz [0,2,3,4,5,6,7,8,1,9,10] [0,1] [1048655] [] .z)) (.dz [0,2,3,4,5,6,7,8,1,9,10] [0,1] [1048655] [] .z)))) .z)))))))))
instance V0j:∀ (p0:Q4g) (p1:(List Z0)),Ct (Q6t p0 p1) fun res=>Z1 Tryz.prog 0o00271 [(.agg (Q94 p0)),(.slice 3 (List.map Y4 p1))] (fun d=>d=(eB res)):=
 au Tryz.func185 Q6t.eq_1 .z
instance V4l:∀ (p0:(List Q3)) (p1:Q2) (p2:Q0),Ct (Q8a p0 p1 p2) fun res=>Z1 Tryz.prog 0o00401 [(.slice 2 (List.map V0 p0)),(.agg (X9 p1)),(.agg (Q1 p2))] (fun d=>d=(eB res)):=
 au Tryz.func257 Q8a.eq_1 (.o (.o (.o (.e (.j 1 0 [0,4,5,7] [0,8] (fun (s2:Bool)=>[(7,eB s2)]) (fun _=>[]) .z (fun s2=>.j 2 0 [0,4,5] [0,1] (fun (s17:Unit)=>[]) (fun _=>[]) .z (fun s17=>.j 4 0 [0,4,5] [0,1] (fun (s50:Unit)=>[]) (fun _=>[]) .z (fun s50=>.j 7 0 [0,4,5,60,61] [0,1] (fun (s95:Bool)=>[(61,eB s95)]) (fun _=>[]) .z (fun s95=>.i .z (.i .z (.i (.g [0,4,5] [0,1] [] [] (.o (.o (.d [0,1,3,4,2,5,6] [0,1] [] .z)))) .z)))))))))))
instance V00:∀ (n:Nat) (p0:(List Q3)) (p1:Q2) (p2:Q0),Ct (Q4a n p0 p1 p2) fun res=>Z1 Tryz.prog 0o00363 [(.slice 2 (List.map V0 p0)),(.agg (X9 p1)),(.agg (Q1 p2))] (fun d=>d=(.slice 2 (List.map X9 res))):=
 au Tryz.func243 Q4a.eq_1 (.o (.o (.o (.o (.i .z (.w [7] [48] [4,5,7,8] [0,8,48] (fun (s52:(List Q2)×Int)=>[(7,.sl 2 48 (s52.1).length),(8,eI s52.2)]) (fun s52=>[(48,some ⟨2,(List.map X9 s52.1),0,0x0019⟩)]) (fun s52=>.z) (fun s60=>.z)))))))
instance V2n:∀ (n:Nat) (p0:Int) (p1:Q8f),Ct (Z18 n p0 p1) fun res=>Z1 Tryz.prog 0o00357 [(eI p0),(.agg (Q7e p1))] (fun d=>d=(eB res)):=
 au Tryz.func239 Z18.eq_1 (.o (.o (.o (.o (.i .z (.i .z (.i .z (.i .z (.ls 12 (.f [] [] [0,3,5] [0] (fun (k82:Nat) (s78:Unit)=>[(5,eI (k82:Int))]) (fun k82 s78=>[]) (fun k82 s78=>.z) (fun s86=>.z)))))))))))
instance W7v:∀ (p0:Z4) (p1:Q0),Ct (Q2n p0 p1) fun res=>Q05 Tryz.prog 0o00230 [⟨2,[(J2 p0)],0,0x009a⟩] [.ptr 2 0 0 0,(.agg (Q1 p1))] (fun H d=>H=[some ⟨2,[(J2 res.2)],0,0x009a⟩]∧d=(.agg (Q1 res.1))):=
 au Tryz.func152 Q2n.eq_1 (.o (.b fun (p1:Q0)=>.o (.j 3 0 [4,5] [0,9,25,65] (fun (s17:Z4×Int×Int×Int×Int×(List Q0))=>[]) (fun s17=>[(0,some ⟨2,[(J2 s17.1)],0,0x009a⟩),(1000000025,some ⟨6,[[(eI s17.2.1),(eI s17.2.2.1),(eI s17.2.2.2.1),(eI p1.m),(eI s17.2.2.2.2.1),(.sl 6 65 (s17.2.2.2.2.2).length)]],0,0x0064⟩),(65,some ⟨6,(List.map Q1 s17.2.2.2.2.2),0,0x0064⟩)]) .z (fun _=>.pF 3 .z))))
instance W5d:∀ (p0:Z2) (q0:Q4),Ct (Q3s p0 q0) fun res=>Z1 Tryz.prog 0o00220 [(.agg (Q1s p0)),.cptr (Q07 q0)] (fun d=>d=(eB res)):=
 au Tryz.func144 Q3s.eq_1 .z
end Go.Proofs.YtbdkbdafhlcilaaGreat
