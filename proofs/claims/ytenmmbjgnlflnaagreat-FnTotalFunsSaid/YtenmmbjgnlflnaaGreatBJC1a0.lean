import Derived.Test.YtenmmbjgnlflnaaGreatBJC0a0
import Derived.Test.YtenmmbjgnlflnaaGreatBJC0c0
import Derived.Test.YtenmmbjgnlflnaaGreatBJC0b0
set_option linter.unusedSimpArgs false
set_option linter.unusedVariables false
namespace Go.Proofs.YtenmmbjgnlflnaaGreat
open Go Go.RowKit
set_option maxRecDepth 100000
set_option maxHeartbeats 20000000
instance V88:∀ (p0:(List Q4)) (p1:Q2),Ct (Q36 p0 p1) fun res=>Q7 Tryz.prog 0o00256 [(.slice 2 (List.map Z8 p0)),(.agg (Z7 p1))] (fun d=>d=(eB res)):=
 au Tryz.func174 Q36.eq_1 .z
instance V3c:∀ (n:Nat) (p0:ByteArray) (p1:Int),Ct (Q9o n p0 p1) fun res=>Q7 Tryz.prog 0o00536 [(eS p0),(eI p1)] (fun d=>d=.tup [(eS res.1),(eI res.2)]):=
 au Tryz.func350 Q9o.eq_1 (.o (.o (.o (.w [0,1,6] [] [0,1,6] [] (fun (s145:Int)=>[(6,eI s145)]) (fun s145=>[]) (fun s145=>.j 2 0 [0,1,6] [] (fun (s188:Unit)=>[]) (fun _=>[]) .z (fun _=>.z)) (fun s153=>.z)))))
instance X7e:∀ (p0:(List Int)) (p1:Int),Ct (J5 p0 p1) fun res=>Q7 Tryz.prog 0o00272 [(.slice 1 (List.map rI p0)),(eI p1)] (fun d=>d=(eB res)):=
 au Tryz.func186 J5.eq_1 .z
instance Z9b:∀ (n:Nat) (p0:(List X1)) (p1:Int) (p2:Int) (p3:Int) (p4:(X1→X1→Option Int)) {p4_f:FuncId} {p4_c:List D} [p4_i:CF2 (fun a0=>(.agg (Q02 a0))) (fun a1=>(.agg (Q02 a1))) (fun r=>(eI r)) p4 p4_f p4_c],Ct (Q1n n p0 p1 p2 p3 p4) fun res=>Q12 Tryz.prog 0o00445 [⟨4,List.map Q02 p0,0,0x00d1⟩] [.sl 4 0 p0.length,(eI p1),(eI p2),(eI p3),.clos p4_f p4_c] (fun H d=>H=[some ⟨4,List.map Q02 res,0,0x00d1⟩]∧d=.tup []):=
 ar (au Tryz.func293 Q1n.eq_2 (.o (.o (.o (.o (.o (.o (.o (.o (.o (.o (.w [] [0] [0,1,2,3,4,10,11] [0] (fun (s10:Unit)=>[]) (fun s10=>[]) (fun s10=>.z) (fun s18=>.z)))))))))))))
instance Z8v:∀ (p0:(List Q0)) (p1:(Q0→Option Bool)) {p1_f:FuncId} {p1_c:List D} [p1_i:CF1 (fun a0=>(.agg (Q3 a0))) (fun r=>(eB r)) p1 p1_f p1_c],Ct (X4 p0 p1) fun res=>Q7 Tryz.prog 0o00247 [(.slice 6 (List.map Q3 p0)),.clos p1_f p1_c] (fun d=>d=(eB res)):=
 au Tryz.func167 X4.eq_1 .z
end Go.Proofs.YtenmmbjgnlflnaaGreat
