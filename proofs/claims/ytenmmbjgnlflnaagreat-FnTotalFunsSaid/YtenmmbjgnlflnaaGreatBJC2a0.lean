import Derived.Test.YtenmmbjgnlflnaaGreatBJC1d0
import Derived.Test.YtenmmbjgnlflnaaGreatBJC1b0
import Derived.Test.YtenmmbjgnlflnaaGreatBJC1c0
import Derived.Test.YtenmmbjgnlflnaaGreatBJC1a0
set_option linter.unusedSimpArgs false
set_option linter.unusedVariables false
namespace Go.Proofs.YtenmmbjgnlflnaaGreat
open Go Go.RowKit
set_option maxRecDepth 100000
set_option maxHeartbeats 20000000
instance W23:∀ (n:Nat) (p0:(List ByteArray)) (p1:ByteArray),Ct (Q8g n p0 p1) fun res=>Q7 Tryz.prog 0o00322 [(.slice 1 (List.map rS p0)),(eS p1)] (fun d=>d=(.agg (Q8c res))):=
 au Tryz.func210 Q8g.eq_1 (.o (.o (.o (.j 2 0 [0,1,4,5] [0,16] (fun (s13:ByteArray×Int)=>[(1,eS s13.1)]) (fun s13=>[(16,some ⟨3,[[(eS ByteArray.empty),.nil,(eI s13.2)]],0,0x00ef⟩)]) .z (fun s13=>.o (.b fun (x29:ByteArray)=>.i .z (.o (.i .z (.g [0,4,5,6] [0,1] [] [] (.o (.o (.d [0,1,2,3,4,5,6,7,8,9,10] [] [] (.pC 1 1 2 0x0023 (.ls 60 (.f [4,5] [0,1,18] [0,4,5,7,8] [0,1,18] (fun (k137:Nat) (s133:(List Q2))=>[(8,eI (k137:Int))]) (fun k137 s133=>[(1000000001,some ⟨3,[[(eS x29),(.sl 2 18 (s133).length),(eI s13.2)]],0,0x00ef⟩),(18,some ⟨2,(List.map Z7 s133),0,0x0023⟩)]) (fun k137 s133=>.o (.i (.g [0,4,5,7,8] [0,1,2] [] [(1000000001,some ⟨3,[[(eS x29),(.sl 2 2 (s133).length),(eI s13.2)]],0,0x00ef⟩)] (.o (.o (.d [0,1,2,3,4,5,6,7,8,9,10,11] [1] [81] .z)))) .z)) (fun s141=>.z))))))))))))))))
instance V1r:∀ (p0:(List Q4)) (p1:(List Z0)) (p2:(List Q5)) (p3:Q2) (p4:Z1),Ct (Q7h p0 p1 p2 p3 p4) fun res=>Q7 Tryz.prog 0o00425 [(.slice 2 (List.map Z8 p0)),(.slice 4 (List.map W8 p1)),(.slice 3 (List.map X6 p2)),(.agg (Z7 p3)),(.agg (V8 p4))] (fun d=>d=.tup [(.slice 2 (List.map Z7 res.1)),(eB res.2)]):=
 au Tryz.func277 Q7h.eq_1 (.o (.o (.o (.o (.o (.j 2 0 [0,1,2,8,9,12] [0,8,40] (fun (s27:Unit)=>[]) (fun _=>[]) .z (fun s27=>.i (.g [8,9,12] [0,1,2] [] [] (.i (.i (.d [1,2,3,4,5,6,7,8,9,10,11,12,13,0,14,15] [0,1,2] [] .z) (.d [1,2,3,4,5,6,7,8,9,10,11,12,13,0,14,15] [0,1,2] [] .z)) (.d [1,2,3,4,5,6,7,8,9,10,11,12,13,0,14,15] [0,2] [] .z))) (.i (.o (.g [2,8,13] [0] [] [] (.i (.o (.o (.dz [1,2,3,4,5,6,7,8,9,10,11,0,12,13] [0] [1048638] [] .z))) (.dz [1,2,3,4,5,6,7,8,9,10,11,0,12,13] [] [1048638] [] .z)))) (.i (.g [8,12] [0,2] [] [] (.d [0,1,3,4,5,2,6,7] [0,1] [] .z)) (.i (.g [0,8,9] [0,1] [] [] (.o (.o (.d [0,1,3,4,2,5,6] [0,1] [] .z)))) (.i (.i .z (.i .z (.g [1,8,9] [0,1] [] [] (.o (.o (.dz [0,1,2,3,4,5,7,8,9,10,11,12,13,14,6,15,16] [0,1] [1048690] [] .z)))))) .z)))))))))))
instance V12:∀ (n:Nat) (p0:(List Q4)) (p1:Q2) (p2:Q0),Ct (Q4v n p0 p1 p2) fun res=>Q7 Tryz.prog 0o00260 [(.slice 2 (List.map Z8 p0)),(.agg (Z7 p1)),(.agg (Q3 p2))] (fun d=>d=(.slice 2 (List.map Z7 res))):=
 au Tryz.func176 Q4v.eq_1 (.o (.o (.o (.o (.i .z (.w [7] [48] [4,5,7,8] [0,8,48] (fun (s52:(List Q2)×Int)=>[(7,.sl 2 48 (s52.1).length),(8,eI s52.2)]) (fun s52=>[(48,some ⟨2,(List.map Z7 s52.1),0,0x0023⟩)]) (fun s52=>.z) (fun s60=>.z)))))))
instance V1p:∀ (p0:(List Q4)) (p1:(List Q5)),Ct (Q8y p0 p1) fun res=>Q7 Tryz.prog 0o00330 [(.slice 2 (List.map Z8 p0)),(.slice 3 (List.map X6 p1))] (fun d=>d=(eB res)):=
 au Tryz.func216 Q8y.eq_1 (.o (.o (.ls 1 (.f [] [] [0,1,5] [] (fun (k220:Nat) (s216:Unit)=>[(5,eI (k220:Int))]) (fun k220 s216=>[]) (fun k220 s216=>.z) (fun s224=>.z)))))
instance W65:∀ (p0:X1) (p1:X1),Ct (Q24 p0 p1) fun res=>Q7 Tryz.prog 0o00361 [(.agg (Q02 p0)),(.agg (Q02 p1))] (fun d=>d=(eI res)):=
 au Tryz.func241 Q24.eq_1 .z
instance V60:∀ (n:Nat) (p0:(List Z6)) (p1:Q1),Ct (Q83 n p0 p1) fun res=>Q7 Tryz.prog 0o00320 [(.slice 9 (List.map V6 p0)),(.agg (X0 p1))] (fun d=>d=.tup [(eI res.1),(.slice 4 (List.map Q02 res.2))]):=
 au Tryz.func208 Q83.eq_1 (.o (.o (.o (.ls 0 (.f [] [] [0,3,6] [0] (fun (k159:Nat) (s155:Unit)=>[(6,eI (k159:Int))]) (fun k159 s155=>[]) (fun k159 s155=>.o (.j 4 0 [0,3,6] [0] (fun (s175:Unit)=>[]) (fun _=>[]) (.g [0,3,6] [0] [] [] (.o (.d [0,1,2,3,4,5,6,7,8,9,10,11] [0] [] .z))) (fun _=>.z))) (fun s163=>.z))))))
end Go.Proofs.YtenmmbjgnlflnaaGreat
