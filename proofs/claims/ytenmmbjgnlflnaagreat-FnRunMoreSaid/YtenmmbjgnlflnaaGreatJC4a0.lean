import Derived.Test.YtenmmbjgnlflnaaGreatJC3c0
import Derived.Test.YtenmmbjgnlflnaaGreatJC3a0
set_option linter.unusedSimpArgs false
set_option linter.unusedVariables false
namespace Go.Proofs.YtenmmbjgnlflnaaGreat
open Go Go.RowKit
set_option maxRecDepth 100000
set_option maxHeartbeats 20000000
theorem Q79:∀ n:Nat,(∀ (p0:Y1) (p1:Int) (p2:Q0) (p3:Int),Ct (Q05 n p0 p1 p2 p3) fun res=>Q6 Tryz.prog 0o00077 [(.agg (Q0g p0)),(eI p1),(.agg (Z2 p2)),(eI p3)] (fun d=>d=.tup [(.agg (Q0g res.1)),(.agg (Z2 res.2))]))∧(∀ (p0:Y1) (p1:Q3) (p2:Z4) (p3:(List Z3)) (p4:Int),Ct (Q0e n p0 p1 p2 p3 p4) fun res=>Q6 Tryz.prog 0o00122 [(.agg (Q0g p0)),(.agg (Z6 p1)),(.agg (Q00 p2)),(.slice 4 (List.map V9 p3)),(eI p4)] (fun d=>d=.tup [(.agg (Q0g res.1)),(.agg (Z2 res.2))]))∧(∀ (p0:Y1) (p1:(List Q3)) (p2:(List Z4)) (p3:(List Z3)) (p4:Int),Ct (Q1j n p0 p1 p2 p3 p4) fun res=>Q6 Tryz.prog 0o00233 [(.agg (Q0g p0)),(.slice 2 (List.map Z6 p1)),(.slice 4 (List.map Q00 p2)),(.slice 4 (List.map V9 p3)),(eI p4)] (fun d=>d=.tup [(.agg (Q0g res.1)),(.slice 3 (List.map Z2 res.2))])):=
 ar3 (au Tryz.func63 Q05.eq_2 (.o (.o (.o (.o (.o (.o (.o (.o (.i .z (.i .z (.o (.i .z (.g [1,3,8,9,10,11,12] [16,24,216] [] [] (.o (.o (.o (.d [0,1,2,3,4,5,6,7,8,9,10,11,12,13,14,15,16,17,18,19,20,21,22,23,24] [2] [] .z))))))))))))))))))
 (au Tryz.func82 Q0e.eq_2 (.o (.o (.o (.o (.o (.o (.o (.o (.o (.i (.g [5,7,10,11] [0,16,24,32] [] [] (.d [0,1,2,3,4,5] [0,1] [] .z)) (.i (.g [3,5,7,10,11] [0,16,24,32] [] [] (.o (.d [0,1,2,3,4,5,6] [0,1] [] .z))) (.i (.o (.i .z (.g [10,11,13,14] [24,32,224] [] [] (.o (.o (.d [0,1,2,3,4,5,6,7,8,9,10,11,12,13] [2] [] .z)))))) (.i (.g [3,4,5,7,10,11] [0,16,24,32] [] [] (.o (.o (.dz [0,1,2,3,4,5,6,7,8,10,11,12,13,9,14,15,16,17,18,19,20] [0,1] [1048591] [] (.i .z (.g [4,7,10,11,15,16] [1,2,3,1048591] [] [] (.o (.o (.d [0,1,2,3,4,5,6,7,8,9,10,11] [0,3] [] .z))))))))) (.g [3,4,5,6,7,10,11] [0,8,16,24,32] [] [] (.o (.b fun (r34:(Y1×(List Q0)))=>.dz [0,1,2,3,4,5,7,8,9,10,6,11,12,13,14,15,16,17] [0,1,2] [1048593] [] (.j 19 0 [10,11,17,19] [3,4,1048593,2097208] (fun (s43:Int)=>[]) (fun s43=>[(1048593,some ⟨7,[[(.slice 2 (List.map Z5 r34.1.w)),(.slice 6 (List.map J1 r34.1.list)),(.slice 6 (List.map Q4v r34.1.trees)),(eI r34.1.fuel),(eI r34.1.calls),(eI r34.1.tests),(eI s43)]],0,0x0070⟩)]) .z (fun _=>.i .z (.g [10,11,17,19] [0,1,2,3] [] [] (.d [0,1,2,3] [2,3] [] .z)))))))))))))))))))))
 (au Tryz.func155 Q1j.eq_2 (.o (.o (.o (.o (.o (.o (.o (.o (.o (.ls 2 (.f [5,10,12] [0,8,24] [1,2,3,4,5,10,12,13] [0,8,24] (fun (k102:Nat) (s98:Y1×(List Q0))=>[(12,.sl 3 24 (s98.2).length),(13,eI (k102:Int))]) (fun k102 s98=>[(0,some ⟨7,[(Q0g s98.1)],0,0x0070⟩),(24,some ⟨3,(List.map Z2 s98.2),0,0x001b⟩)]) (fun k102 s98=>.o (.i (.g [1,2,3,4,5,10,12,13] [0,1,2] [] [] (.o (.o (.dz [0,1,2,3,4,5,6,7,8,9,10,11,12,13,14,15,16,17,18] [0] [1048590,1048591] [] .z)))) .z)) (fun s106=>.z)))))))))))))
instance W1w:∀ (n:Nat),∀ (p0:Y1) (p1:Int) (p2:Q0) (p3:Int),Ct (Q05 n p0 p1 p2 p3) fun res=>Q6 Tryz.prog 0o00077 [(.agg (Q0g p0)),(eI p1),(.agg (Z2 p2)),(eI p3)] (fun d=>d=.tup [(.agg (Q0g res.1)),(.agg (Z2 res.2))]):=
 fun n=>(Q79 n).1
instance W1t:∀ (n:Nat),∀ (p0:Y1) (p1:Q3) (p2:Z4) (p3:(List Z3)) (p4:Int),Ct (Q0e n p0 p1 p2 p3 p4) fun res=>Q6 Tryz.prog 0o00122 [(.agg (Q0g p0)),(.agg (Z6 p1)),(.agg (Q00 p2)),(.slice 4 (List.map V9 p3)),(eI p4)] (fun d=>d=.tup [(.agg (Q0g res.1)),(.agg (Z2 res.2))]):=
 fun n=>(Q79 n).2.1
instance W1r:∀ (n:Nat),∀ (p0:Y1) (p1:(List Q3)) (p2:(List Z4)) (p3:(List Z3)) (p4:Int),Ct (Q1j n p0 p1 p2 p3 p4) fun res=>Q6 Tryz.prog 0o00233 [(.agg (Q0g p0)),(.slice 2 (List.map Z6 p1)),(.slice 4 (List.map Q00 p2)),(.slice 4 (List.map V9 p3)),(eI p4)] (fun d=>d=.tup [(.agg (Q0g res.1)),(.slice 3 (List.map Z2 res.2))]):=
 fun n=>(Q79 n).2.2
end Go.Proofs.YtenmmbjgnlflnaaGreat
