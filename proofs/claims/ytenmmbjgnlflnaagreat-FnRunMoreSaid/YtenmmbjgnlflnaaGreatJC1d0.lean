import Derived.Test.YtenmmbjgnlflnaaGreatJC0b0
import Derived.Test.YtenmmbjgnlflnaaGreatJC0c0
import Derived.Test.YtenmmbjgnlflnaaGreatJC0d0
import Derived.Test.YtenmmbjgnlflnaaGreatJC0a0
set_option linter.unusedSimpArgs false
set_option linter.unusedVariables false
namespace Go.Proofs.YtenmmbjgnlflnaaGreat
open Go Go.RowKit
set_option maxRecDepth 100000
set_option maxHeartbeats 20000000
instance X4f:∀ (p0:(List ByteArray)) (p1:ByteArray),Ct (Q2d p0 p1) fun res=>Q6 Tryz.prog 0o00416 [(.slice 1 (List.map rS p0)),(eS p1)] (fun d=>d=(.agg (Z6 res))):=
 au Tryz.func270 Q2d.eq_1 (.o (.o (.i .z (.o (.b fun (r4:(Int))=>.j 4 0 [4,5] [0,64] (fun (s18:Int)=>[]) (fun s18=>[(64,some ⟨2,[[(eI r4),(eI s18)]],0,0x0023⟩)]) .z (fun _=>.z))))))
instance W1a:∀ (p0:Q2i) (p1:(List Q1)),Ct (Q3f p0 p1) fun res=>Q6 Tryz.prog 0o00400 [(.agg (Q5j p0)),(.slice 3 (List.map Z8 p1))] (fun d=>d=(eB res)):=
 au Tryz.func256 Q3f.eq_1 (.o (.o (.i .z (.j 3 0 [1,2] [0] (fun (s23:Unit)=>[]) (fun _=>[]) .z (fun _=>.z)))))
instance W5r:∀ (p0:ByteArray) (p1:Int),Ct (Q9i p0 p1) fun res=>Q6 Tryz.prog 0o00533 [(eS p0),(eI p1)] (fun d=>d=.tup [(.agg (X7 res.1)),(eI res.2)]):=
 au Tryz.func347 Q9i.eq_1 (.o (.o (.o (.j 2 0 [1,4,6] [0] (fun (s19:Unit)=>[]) (fun _=>[]) .z (fun _=>.z)))))
instance W1m:∀ (p0:(List Int)) (p1:Q3),Ct (Q2m p0 p1) fun res=>Q6 Tryz.prog 0o00112 [(.slice 1 (List.map rI p0)),(.agg (Z6 p1))] (fun d=>d=(eI res)):=
 au Tryz.func74 Q2m.eq_1 .z
instance X7i:∀ (n:Nat) (p0:ByteArray),Ct (Q69 n p0) fun res=>Q6 Tryz.prog 0o00340 [(eS p0)] (fun d=>d=(eB res)):=
 au Tryz.func224 Q69.eq_1 (.o (.o (.o (.i .z (.o (.i .z (.i .z (.w [] [] [0,3] [] (fun (s132:Int)=>[(3,eI s132)]) (fun s132=>[]) (fun s132=>.z) (fun s140=>.z)))))))))
instance Z6d:∀ (p0:(List Q3)) (p1:(Q3→Option Bool)) {p1_f:FuncId} {p1_c:List D} [p1_i:CF1 (fun a0=>(.agg (Z6 a0))) (fun r=>(eB r)) p1 p1_f p1_c],Ct (Q23 p0 p1) fun res=>Q6 Tryz.prog 0o00341 [(.slice 2 (List.map Z6 p0)),.clos p1_f p1_c] (fun d=>d=(eB res)):=
 au Tryz.func225 Q23.eq_1 .z
instance Z44:∀ (p0:(List X1)) (p1:(X1→Option Bool)) {p1_f:FuncId} {p1_c:List D} [p1_i:CF1 (fun a0=>(.agg (V7 a0))) (fun r=>(eB r)) p1 p1_f p1_c],Ct (Q0d p0 p1) fun res=>Q6 Tryz.prog 0o00242 [(.slice 9 (List.map V7 p0)),.clos p1_f p1_c] (fun d=>d=(eB res)):=
 au Tryz.func162 Q0d.eq_1 .z
instance Z95:∀ (p0:Q30) (p1:Int),Ct (Q0s p0 p1) fun res=>Q6 Tryz.prog 0o00443 [(.agg (Q53 p0)),(eI p1)] (fun d=>d=.tup [(.agg (Z6 res.1)),(eB res.2)]):=
 au Tryz.func291 Q0s.eq_1 .z
instance X9i:∀ (n:Nat) (p0:Y1) (p1:Q0),Ct (Q3r n p0 p1) fun res=>Q6 Tryz.prog 0o00100 [(.agg (Q0g p0)),(.agg (Z2 p1))] (fun d=>d=.tup [(.agg (Z2 res.1)),(eI res.2)]):=
 au Tryz.func64 Q3r.eq_1 (.o (.o (.o (.i (.g [2,4] [0,16] [] [] (.d [0,1,2,3,4] [0] [] .z)) .z))))
instance X9c:∀ (n:Nat) (p0:(List Q41)) (p1:Q0),Ct (Q70 n p0 p1) fun res=>Q6 Tryz.prog 0o00411 [(.slice 2 (List.map Q0t p0)),(.agg (Z2 p1))] (fun d=>d=(.slice 4 (List.map V9 res))):=
 au Tryz.func265 Q70.eq_1 (.o (.o (.o (.ls 0 (.f [5] [16] [0,3,5,6] [0,16] (fun (k66:Nat) (s62:(List Z3))=>[(5,.sl 4 16 (s62).length),(6,eI (k66:Int))]) (fun k66 s62=>[(16,some ⟨4,(List.map V9 s62),0,0x00d1⟩)]) (fun k66 s62=>.o (.g [0,3,5,6] [0,1] [] [] (.o (.o (.o (.d [0,1,2,3,4,5,6,7,8,9,10,11,12,13,14,15,16,17] [0] [] .z)))))) (fun s70=>.z))))))
end Go.Proofs.YtenmmbjgnlflnaaGreat
