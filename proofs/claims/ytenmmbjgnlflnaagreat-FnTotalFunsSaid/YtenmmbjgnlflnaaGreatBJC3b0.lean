import Derived.Test.YtenmmbjgnlflnaaGreatBJC2b0
import Derived.Test.YtenmmbjgnlflnaaGreatBJC2c0
import Derived.Test.YtenmmbjgnlflnaaGreatBJC2d0
set_option linter.unusedSimpArgs false
set_option linter.unusedVariables false
namespace Go.Proofs.YtenmmbjgnlflnaaGreat
open Go Go.RowKit
set_option maxRecDepth 100000
set_option maxHeartbeats 20000000
instance W43:∀ (n:Nat) (p0:(List Q4)) (p1:Q96),Ct (Q8r n p0 p1) fun res=>Q7 Tryz.prog 0o00417 [(.slice 2 (List.map Z8 p0)),(.agg (Q8c p1))] (fun d=>d=(eS res)):=
 au Tryz.func271 Q8r.eq_1 (.o (.o (.b fun (p1:Q96)=>.lc 0 1 2 Z7 p1.args (.f [3,5] [0] [0,3,5,6] [0] (fun (k146:Nat) (s142:ByteArray)=>[(5,eS s142),(6,eI (k146:Int))]) (fun k146 s142=>[]) (fun k146 s142=>.o (.j 5 1 [0,3,5,6] [0] (fun (s165:ByteArray)=>[(5,eS s165)]) (fun _=>[]) .z (fun _=>.z))) (fun s150=>.j 9 0 [3,5] [0] (fun (s175:ByteArray)=>[(5,eS s175)]) (fun _=>[]) .z (fun s175=>.j 11 0 [5] [] (fun (s184:ByteArray)=>[(5,eS s184)]) (fun _=>[]) .z (fun _=>.z)))))))
instance W45:∀ (n:Nat) (p0:(List Q4)),Ct (Q1f n p0) fun res=>Q7 Tryz.prog 0o00137 [(.slice 2 (List.map Z8 p0))] (fun d=>d=(eB res)):=
 au Tryz.func95 Q1f.eq_1 (.o (.o (.i .z (.ls 0 (.f [] [] [0,3] [] (fun (k1226:Nat) (s1222:Unit)=>[(3,eI (k1226:Int))]) (fun k1226 s1222=>[]) (fun k1226 s1222=>.o (.o (.i .z (.i .z (.i .z (.ls 26 (.f [0,3] [] [0,3,4] [] (fun (k1434:Nat) (s1430:Unit)=>[(4,eI (k1434:Int))]) (fun k1434 s1430=>[]) (fun k1434 s1430=>.z) (fun s1438=>.z)))))))) (fun s1230=>.z))))))
theorem Z3w:∀ n:Nat,(∀ (p0:(List Q4)) (p1:Q2) (p2:ByteArray) (p3:Int) (p4:Int),Ct (Q7f n p0 p1 p2 p3 p4) fun res=>Q7 Tryz.prog 0o00463 [(.slice 2 (List.map Z8 p0)),(.agg (Z7 p1)),(eS p2),(eI p3),(eI p4)] (fun d=>d=.tup [(.agg (Q3 res.1)),(eI res.2)]))∧(∀ (p0:(List Q4)) (p1:(List Q2)) (p2:(List Int)) (p3:ByteArray) (p4:Int) (p5:Int),Ct (Q5h n p0 p1 p2 p3 p4 p5) fun res=>Q7 Tryz.prog 0o00534 [(.slice 2 (List.map Z8 p0)),(.slice 2 (List.map Z7 p1)),(.slice 1 (List.map (rK .u8) p2)),(eS p3),(eI p4),(eI p5)] (fun d=>d=.tup [(.slice 6 (List.map Q3 res.1)),(eI res.2)])):=
 ar2 (au Tryz.func307 Q7f.eq_2 (.o (.o (.o (.o (.o (.o (.o (.o (.i .z (.i .z (.i .z (.o (.j 4 0 [0,2,3,4,6,10] [0,8] (fun (s102:Unit)=>[]) (fun _=>[]) .z (fun _=>.z)))))))))))))))
 (au Tryz.func348 Q5h.eq_2 (.o (.o (.o (.o (.o (.o (.o (.o (.o (.ls 1 (.f [4,14] [16] [0,1,2,3,4,5,14,15] [16] (fun (k118:Nat) (s114:Int×(List Q0))=>[(4,eI s114.1),(14,.sl 6 16 (s114.2).length),(15,eI (k118:Int))]) (fun k118 s114=>[(16,some ⟨6,(List.map Q3 s114.2),0,0x0044⟩)]) (fun k118 s114=>.z) (fun s122=>.z)))))))))))))
instance V15:∀ (n:Nat),∀ (p0:(List Q4)) (p1:Q2) (p2:ByteArray) (p3:Int) (p4:Int),Ct (Q7f n p0 p1 p2 p3 p4) fun res=>Q7 Tryz.prog 0o00463 [(.slice 2 (List.map Z8 p0)),(.agg (Z7 p1)),(eS p2),(eI p3),(eI p4)] (fun d=>d=.tup [(.agg (Q3 res.1)),(eI res.2)]):=
 fun n=>(Z3w n).1
instance V62:∀ (n:Nat),∀ (p0:(List Q4)) (p1:(List Q2)) (p2:(List Int)) (p3:ByteArray) (p4:Int) (p5:Int),Ct (Q5h n p0 p1 p2 p3 p4 p5) fun res=>Q7 Tryz.prog 0o00534 [(.slice 2 (List.map Z8 p0)),(.slice 2 (List.map Z7 p1)),(.slice 1 (List.map (rK .u8) p2)),(eS p3),(eI p4),(eI p5)] (fun d=>d=.tup [(.slice 6 (List.map Q3 res.1)),(eI res.2)]):=
 fun n=>(Z3w n).2
instance V40:∀ (n:Nat) (p0:(List Q4)) (p1:Q96),Ct (Z2c n p0 p1) fun res=>Q7 Tryz.prog 0o00236 [(.slice 2 (List.map Z8 p0)),(.agg (Q8c p1))] (fun d=>d=(eB res)):=
 au Tryz.func158 Z2c.eq_1 .z
instance V1w:∀ (n:Nat) (p0:(List Q4)) (p1:Q2) (p2:Q1),Ct (Q2u n p0 p1 p2) fun res=>Q7 Tryz.prog 0o00056 [(.slice 2 (List.map Z8 p0)),(.agg (Z7 p1)),(.agg (X0 p2))] (fun d=>d=(eB res)):=
 au Tryz.func46 Q2u.eq_1 .z
end Go.Proofs.YtenmmbjgnlflnaaGreat
