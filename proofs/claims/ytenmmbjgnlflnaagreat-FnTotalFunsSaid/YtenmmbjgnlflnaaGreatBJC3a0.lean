import Derived.Test.YtenmmbjgnlflnaaGreatBJC2c0
import Derived.Test.YtenmmbjgnlflnaaGreatBJC2b0
set_option linter.unusedSimpArgs false
set_option linter.unusedVariables false
namespace Go.Proofs.YtenmmbjgnlflnaaGreat
open Go Go.RowKit
set_option maxRecDepth 100000
set_option maxHeartbeats 20000000
theorem Z2v:∀ n:Nat,(∀ (p0:(List Q4)) (p1:(List Z0)) (p2:Q2) (p3:ByteArray) (p4:Int) (p5:Int),Ct (Q6k n p0 p1 p2 p3 p4 p5) fun res=>Q7 Tryz.prog 0o00466 [(.slice 2 (List.map Z8 p0)),(.slice 4 (List.map W8 p1)),(.agg (Z7 p2)),(eS p3),(eI p4),(eI p5)] (fun d=>d=.tup [(.agg (V8 res.1)),(eI res.2)]))∧(∀ (p0:(List Q4)) (p1:(List Z0)) (p2:(List Q2)) (p3:ByteArray) (p4:Int) (p5:Int),Ct (Q0v n p0 p1 p2 p3 p4 p5) fun res=>Q7 Tryz.prog 0o00540 [(.slice 2 (List.map Z8 p0)),(.slice 4 (List.map W8 p1)),(.slice 2 (List.map Z7 p2)),(eS p3),(eI p4),(eI p5)] (fun d=>d=.tup [(.slice 4 (List.map V8 res.1)),(eI res.2)])):=
 ar2 (au Tryz.func310 Q6k.eq_2 (.o (.o (.o (.o (.o (.o (.o (.o (.o (.i .z (.i .z (.i .z (.o (.j 5 0 [0,1,3,4,5,8,12] [0,8] (fun (s475:Unit)=>[]) (fun _=>[]) .z (fun _=>.z))))))))))))))))
 (au Tryz.func352 Q0v.eq_2 (.o (.o (.o (.o (.o (.o (.o (.o (.o (.ls 2 (.f [2,3,4,14] [16] [0,1,2,3,4,5,14,15] [16] (fun (k148:Nat) (s144:Int×(List Z1))=>[(4,eI s144.1),(14,.sl 4 16 (s144.2).length),(15,eI (k148:Int))]) (fun k148 s144=>[(16,some ⟨4,(List.map V8 s144.2),0,0x0037⟩)]) (fun k148 s144=>.o (.j 6 0 [0,1,2,3,4,5,14,15,16] [0] (fun (s165:Int)=>[(16,.val (.int .u8 s165))]) (fun _=>[]) .z (fun _=>.z))) (fun s152=>.z)))))))))))))
instance W8t:∀ (n:Nat),∀ (p0:(List Q4)) (p1:(List Z0)) (p2:Q2) (p3:ByteArray) (p4:Int) (p5:Int),Ct (Q6k n p0 p1 p2 p3 p4 p5) fun res=>Q7 Tryz.prog 0o00466 [(.slice 2 (List.map Z8 p0)),(.slice 4 (List.map W8 p1)),(.agg (Z7 p2)),(eS p3),(eI p4),(eI p5)] (fun d=>d=.tup [(.agg (V8 res.1)),(eI res.2)]):=
 fun n=>(Z2v n).1
instance V1v:∀ (n:Nat),∀ (p0:(List Q4)) (p1:(List Z0)) (p2:(List Q2)) (p3:ByteArray) (p4:Int) (p5:Int),Ct (Q0v n p0 p1 p2 p3 p4 p5) fun res=>Q7 Tryz.prog 0o00540 [(.slice 2 (List.map Z8 p0)),(.slice 4 (List.map W8 p1)),(.slice 2 (List.map Z7 p2)),(eS p3),(eI p4),(eI p5)] (fun d=>d=.tup [(.slice 4 (List.map V8 res.1)),(eI res.2)]):=
 fun n=>(Z2v n).2
instance V87:∀ (n:Nat) (p0:(List Q4)) (p1:Q2) (p2:Q1),Ct (Q7u n p0 p1 p2) fun res=>Q7 Tryz.prog 0o00065 [(.slice 2 (List.map Z8 p0)),(.agg (Z7 p1)),(.agg (X0 p2))] (fun d=>d=(eB res)):=
 au Tryz.func53 Q7u.eq_1 .z
end Go.Proofs.YtenmmbjgnlflnaaGreat
