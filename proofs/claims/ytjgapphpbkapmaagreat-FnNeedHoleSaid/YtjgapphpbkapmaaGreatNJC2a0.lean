import Derived.Test.YtjgapphpbkapmaaGreatNJC1c0
import Derived.Test.YtjgapphpbkapmaaGreatNJC1b0
import Derived.Test.YtjgapphpbkapmaaGreatNJC1a0
set_option linter.unusedSimpArgs false
set_option linter.unusedVariables false
namespace Go.Proofs.YtjgapphpbkapmaaGreat
open Go Go.RowKit
set_option maxRecDepth 100000
set_option maxHeartbeats 20000000
instance X9g:∀ (p0:Q5) (q0:(List Q3)),Ct (Q6x p0 q0) fun res=>Z1 Tryz.prog 0o00365 [(.agg (W1 p0)),.cptr [(.slice 2 (List.map W2 q0))]] (fun d=>d=(eB res)):=
 au Tryz.func245 Q6x.eq_1 .z
instance W5r:∀ (p0:(List Q3)) (p1:Q5) (p2:Q0),Ct (Q63 p0 p1 p2) fun res=>Z1 Tryz.prog 0o00412 [(.slice 2 (List.map W2 p0)),(.agg (W1 p1)),(.agg (Q7 p2))] (fun d=>d=.tup [(.slice 2 (List.map W1 res.1)),(eB res.2)]):=
 au Tryz.func266 Q63.eq_1 (.o (.o (.o (.i .z (.i .z (.i (.g [4,5] [0,8] [] [] (.i (.o (.i (.i (.i (.d [0,1,2,3,4,5,6,7,8,9,10,11,12,13,14,15,16,17,18,19,20,21,22,23,24,25] [0,1] [] .z) (.d [0,1,2,3,4,5,6,7,8,9,10,11,12,13,14,15,16,17,18,19,20,21,22,23,24,25] [0,1] [] .z)) (.d [0,1,2,3,4,5,6,7,8,9,10,11,12,13,14,15,16,17,18,19,20,21,22,23,24,25] [0,1] [] .z)) (.d [0,1,2,3,4,5,6,7,8,9,10,11,12,13,14,15,16,17,18,19,20,21,22,23,24,25] [0,1] [] .z))) (.d [0,1,2,3,4,5,6,7,8,9,10,11,12,13,14,15,16,17,18,19,20,21,22,23,24,25] [0] [] .z))) (.i (.g [0,4,5] [0,8] [] [] (.o (.o (.d [0,1,3,4,2,5,6] [0,1] [] .z)))) (.i (.g [4,5] [0,8] [] [] (.o (.dz [0,1,3,4,2,5,6] [0,1] [1048649] [] .z))) (.i (.g [4,5] [0,8] [] [] (.o (.i (.o (.dz [0,2,3,4,5,6,7,8,1,9,10] [0,1] [1048655] [] .z)) (.dz [0,2,3,4,5,6,7,8,1,9,10] [0,1] [1048655] [] .z)))) .z)))))))))
instance X3x:∀ (n:Nat) (p0:(List ByteArray)) (p1:ByteArray),Ct (Q5f n p0 p1) fun res=>Z1 Tryz.prog 0o00433 [(.slice 1 (List.map rS p0)),(eS p1)] (fun d=>d=(.agg (Q57 res))):=
 au Tryz.func283 Q5f.eq_1 (.o (.o (.o (.j 2 0 [0,1,4,5] [0,16] (fun (s13:ByteArray×Int)=>[(1,eS s13.1)]) (fun s13=>[(16,some ⟨3,[[(eS ByteArray.empty),.nil,(eI s13.2)]],0,0x00fa⟩)]) .z (fun s13=>.o (.b fun (x29:ByteArray)=>.i .z (.o (.i .z (.g [0,4,5,6] [0,1] [] [] (.o (.o (.d [0,1,2,3,4,5,6,7,8,9,10] [] [] (.pC 1 1 2 0x0019 (.ls 60 (.f [4,5] [0,1,18] [0,4,5,7,8] [0,1,18] (fun (k137:Nat) (s133:(List Q5))=>[(8,eI (k137:Int))]) (fun k137 s133=>[(1000000001,some ⟨3,[[(eS x29),(.sl 2 18 (s133).length),(eI s13.2)]],0,0x00fa⟩),(18,some ⟨2,(List.map W1 s133),0,0x0019⟩)]) (fun k137 s133=>.o (.i (.g [0,4,5,7,8] [0,1,2] [] [(1000000001,some ⟨3,[[(eS x29),(.sl 2 2 (s133).length),(eI s13.2)]],0,0x00fa⟩)] (.o (.o (.d [0,1,2,3,4,5,6,7,8,9,10,11] [1] [81] .z)))) .z)) (fun s141=>.z))))))))))))))))
instance W3j:∀ (n:Nat) (p0:(List Q3)) (p1:Q5),Ct (Q89 n p0 p1) fun res=>Z1 Tryz.prog 0o00461 [(.slice 2 (List.map W2 p0)),(.agg (W1 p1))] (fun d=>d=(eS res)):=
 au Tryz.func305 Q89.eq_1 (.o (.o (.o (.i .z (.g [0,3] [0] [] [] (.o (.o (.o (.d [0,1,2,3,4,5,6,7,8,9,10] [0] [] .z)))))))))
instance W16:∀ (n:Nat) (p0:(List Q3)) (p1:Q5) (p2:Q0),Ct (Q2l n p0 p1 p2) fun res=>Z1 Tryz.prog 0o00411 [(.slice 2 (List.map W2 p0)),(.agg (W1 p1)),(.agg (Q7 p2))] (fun d=>d=(.slice 2 (List.map W1 res))):=
 au Tryz.func265 Q2l.eq_1 (.o (.o (.o (.o (.i .z (.w [7] [48] [4,5,7,8] [0,8,48] (fun (s52:(List Q5)×Int)=>[(7,.sl 2 48 (s52.1).length),(8,eI s52.2)]) (fun s52=>[(48,some ⟨2,(List.map W1 s52.1),0,0x0019⟩)]) (fun s52=>.z) (fun s60=>.z)))))))
instance X95:∀ (p0:Z7) (p1:Q0),Ct (Q2u p0 p1) fun res=>J2 Tryz.prog 0o00244 [⟨2,[(V0 p0)],0,0x00c5⟩] [.ptr 2 0 0 0,(.agg (Q7 p1))] (fun H d=>H=[some ⟨2,[(V0 res.2)],0,0x00c5⟩]∧d=(.agg (Q7 res.1))):=
 au Tryz.func164 Q2u.eq_1 (.o (.b fun (p1:Q0)=>.o (.j 3 0 [4,5] [0,9,25,65] (fun (s17:Z7×Int×Int×Int×Int×(List Q0))=>[]) (fun s17=>[(0,some ⟨2,[(V0 s17.1)],0,0x00c5⟩),(1000000025,some ⟨6,[[(eI s17.2.1),(eI s17.2.2.1),(eI s17.2.2.2.1),(eI p1.m),(eI s17.2.2.2.2.1),(.sl 6 65 (s17.2.2.2.2.2).length)]],0,0x0060⟩),(65,some ⟨6,(List.map Q7 s17.2.2.2.2.2),0,0x0060⟩)]) .z (fun _=>.pF 3 .z))))
instance W13:∀ (n:Nat) (p0:(List Q3)) (p1:(List Int)) (p2:Q5) (p3:Q0),Ct (Q0f n p0 p1 p2 p3) fun res=>Z1 Tryz.prog 0o00426 [(.slice 2 (List.map W2 p0)),(.slice 1 (List.map rI p1)),(.agg (W1 p2)),(.agg (Q7 p3))] (fun d=>d=(eB res)):=
 ar (au Tryz.func278 Q0f.eq_2 (.o (.o (.o (.o (.o (.o (.i .z (.i .z (.o (.ls 25 (.f [] [] [0,1,7,9,10] [8] (fun (k71:Nat) (s67:Unit)=>[(10,eI (k71:Int))]) (fun k71 s67=>[]) (fun k71 s67=>.o (.g [0,1,7,9,10] [0] [] [] (.o (.o (.d [0,1,2,3,4,5,6,7,8,9,10,11,12] [0] [] .z))))) (fun s75=>.z)))))))))))))
end Go.Proofs.YtjgapphpbkapmaaGreat
