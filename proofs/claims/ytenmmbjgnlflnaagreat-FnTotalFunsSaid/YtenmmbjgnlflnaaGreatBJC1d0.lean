import Derived.Test.YtenmmbjgnlflnaaGreatBJC0d0
import Derived.Test.YtenmmbjgnlflnaaGreatBJC0c0
import Derived.Test.YtenmmbjgnlflnaaGreatBJC0b0
import Derived.Test.YtenmmbjgnlflnaaGreatBJC0a0
set_option linter.unusedSimpArgs false
set_option linter.unusedVariables false
namespace Go.Proofs.YtenmmbjgnlflnaaGreat
open Go Go.RowKit
set_option maxRecDepth 100000
set_option maxHeartbeats 20000000
instance W22:∀ (p0:(List ByteArray)) (p1:ByteArray),Ct (Q4n p0 p1) fun res=>Q7 Tryz.prog 0o00416 [(.slice 1 (List.map rS p0)),(eS p1)] (fun d=>d=(.agg (Z7 res))):=
 au Tryz.func270 Q4n.eq_1 (.o (.o (.i .z (.o (.b fun (r4:(Int))=>.j 4 0 [4,5] [0,64] (fun (s18:Int)=>[]) (fun s18=>[(64,some ⟨2,[[(eI r4),(eI s18)]],0,0x0023⟩)]) .z (fun _=>.z))))))
instance V11:∀ (p0:Q4u) (p1:(List Q5)),Ct (Q66 p0 p1) fun res=>Q7 Tryz.prog 0o00400 [(.agg (Q8q p0)),(.slice 3 (List.map X6 p1))] (fun d=>d=(eB res)):=
 au Tryz.func256 Q66.eq_1 (.o (.o (.i .z (.j 3 0 [1,2] [0] (fun (s23:Unit)=>[]) (fun _=>[]) .z (fun _=>.z)))))
instance V63:∀ (p0:ByteArray) (p1:Int),Ct (Z3s p0 p1) fun res=>Q7 Tryz.prog 0o00533 [(eS p0),(eI p1)] (fun d=>d=.tup [(.agg (Q3 res.1)),(eI res.2)]):=
 au Tryz.func347 Z3s.eq_1 (.o (.o (.o (.j 2 0 [1,4,6] [0] (fun (s19:Unit)=>[]) (fun _=>[]) .z (fun _=>.z)))))
instance V1e:∀ (p0:(List Int)) (p1:Q2),Ct (Q1r p0 p1) fun res=>Q7 Tryz.prog 0o00112 [(.slice 1 (List.map rI p0)),(.agg (Z7 p1))] (fun d=>d=(eI res)):=
 au Tryz.func74 Q1r.eq_1 .z
instance W6a:∀ (n:Nat) (p0:ByteArray),Ct (Q9c n p0) fun res=>Q7 Tryz.prog 0o00340 [(eS p0)] (fun d=>d=(eB res)):=
 au Tryz.func224 Q9c.eq_1 (.o (.o (.o (.i .z (.o (.i .z (.i .z (.w [] [] [0,3] [] (fun (s132:Int)=>[(3,eI s132)]) (fun s132=>[]) (fun s132=>.z) (fun s140=>.z)))))))))
instance X26:∀ (p0:(List Q2)) (p1:(Q2→Option Bool)) {p1_f:FuncId} {p1_c:List D} [p1_i:CF1 (fun a0=>(.agg (Z7 a0))) (fun r=>(eB r)) p1 p1_f p1_c],Ct (Q4e p0 p1) fun res=>Q7 Tryz.prog 0o00341 [(.slice 2 (List.map Z7 p0)),.clos p1_f p1_c] (fun d=>d=(eB res)):=
 au Tryz.func225 Q4e.eq_1 .z
instance Z9c:∀ (p0:(List Z6)) (p1:(Z6→Option Bool)) {p1_f:FuncId} {p1_c:List D} [p1_i:CF1 (fun a0=>(.agg (V6 a0))) (fun r=>(eB r)) p1 p1_f p1_c],Ct (Q1o p0 p1) fun res=>Q7 Tryz.prog 0o00242 [(.slice 9 (List.map V6 p0)),.clos p1_f p1_c] (fun d=>d=(eB res)):=
 au Tryz.func162 Q1o.eq_1 .z
instance X5t:∀ (p0:Q4t) (p1:Int),Ct (Q2b p0 p1) fun res=>Q7 Tryz.prog 0o00443 [(.agg (Q8b p0)),(eI p1)] (fun d=>d=.tup [(.agg (Z7 res.1)),(eB res.2)]):=
 au Tryz.func291 Q2b.eq_1 .z
instance W8l:∀ (n:Nat) (p0:Q05) (p1:Q1),Ct (Q56 n p0 p1) fun res=>Q7 Tryz.prog 0o00100 [(.agg (Q1t p0)),(.agg (X0 p1))] (fun d=>d=.tup [(.agg (X0 res.1)),(eI res.2)]):=
 au Tryz.func64 Q56.eq_1 (.o (.o (.o (.i (.g [2,4] [0,16] [] [] (.d [0,1,2,3,4] [0] [] .z)) .z))))
instance W8d:∀ (n:Nat) (p0:(List Q6y)) (p1:Q1),Ct (Z0a n p0 p1) fun res=>Q7 Tryz.prog 0o00411 [(.slice 2 (List.map Q2h p0)),(.agg (X0 p1))] (fun d=>d=(.slice 4 (List.map Q02 res))):=
 au Tryz.func265 Z0a.eq_1 (.o (.o (.o (.ls 0 (.f [5] [16] [0,3,5,6] [0,16] (fun (k66:Nat) (s62:(List X1))=>[(5,.sl 4 16 (s62).length),(6,eI (k66:Int))]) (fun k66 s62=>[(16,some ⟨4,(List.map Q02 s62),0,0x00d1⟩)]) (fun k66 s62=>.o (.g [0,3,5,6] [0,1] [] [] (.o (.o (.o (.d [0,1,2,3,4,5,6,7,8,9,10,11,12,13,14,15,16,17] [0] [] .z)))))) (fun s70=>.z))))))
end Go.Proofs.YtenmmbjgnlflnaaGreat
