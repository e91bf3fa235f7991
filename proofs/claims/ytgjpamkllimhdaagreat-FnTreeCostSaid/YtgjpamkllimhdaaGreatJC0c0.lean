import Derived.Test.YtgjpamkllimhdaaGreatJMir
import Derived.Test.YtgjpamkllimhdaaGreatJAuto
set_option linter.unusedSimpArgs false
set_option linter.unusedVariables false
namespace Go.Proofs.YtgjpamkllimhdaaGreat
open Go Go.RowKit
set_option maxRecDepth 100000
set_option maxHeartbeats 20000000
instance V41:∀ (p0:Int),Ct (Q9v p0) fun res=>Z1 Tryz.prog 0o00333 [(.val (.int .u8 p0))] (fun d=>d=(eB res)):=
 au Tryz.func219 Q9v.eq_1 .z
instance V1z:∀ (n:Nat) (p0:Int),Ct (Q7k n p0) fun res=>Z1 Tryz.prog 0o00361 [(eI p0)] (fun d=>d=(eS res)):=
 ar (au Tryz.func241 Q7k.eq_2 (.o (.o (.o (.i .z (.i .z (.w [0,3] [] [0,3] [] (fun (s18:Int×ByteArray)=>[(0,eI s18.1),(3,eS s18.2)]) (fun s18=>[]) (fun s18=>.z) (fun s26=>.z))))))))
instance V40:∀ (p0:(List Int)) (p1:Int),Ct (Q5s p0 p1) fun res=>Z1 Tryz.prog 0o00173 [(.slice 1 (List.map rI p0)),(eI p1)] (fun d=>d=(eB res)):=
 au Tryz.func123 Q5s.eq_1 (.o (.o (.ls 0 (.f [] [] [0,1,5] [] (fun (k44:Nat) (s40:Unit)=>[(5,eI (k44:Int))]) (fun k44 s40=>[]) (fun k44 s40=>.z) (fun s48=>.z)))))
instance W9f:∀ (n:Nat) (p0:Q0) (p1:Int),Ct (Q45 n p0 p1) fun res=>Z1 Tryz.prog 0o00316 [(.agg (Q9 p0)),(eI p1)] (fun d=>d=(eI res)):=
 ar (au Tryz.func206 Q45.eq_2 (.o (.o (.b fun (p0:Q0)=>.o (.lc 0 5 6 Q9 p0.kids (.f [5] [] [1,2,5,6] [0] (fun (k80:Nat) (s76:Int)=>[(5,eI s76),(6,eI (k80:Int))]) (fun k80 s76=>[]) (fun k80 s76=>.z) (fun s84=>.z)))))))
instance X1d:∀ (p0:(List Q3)) (p1:(Q3→Option Bool)) {p1_f:FuncId} {p1_c:List D} [p1_i:CF1 (fun a0=>(.agg (X9 a0))) (fun r=>(eB r)) p1 p1_f p1_c],Ct (Q48 p0 p1) fun res=>Z1 Tryz.prog 0o00231 [(.slice 9 (List.map X9 p0)),.clos p1_f p1_c] (fun d=>d=(eI res)):=
 au Tryz.func153 Q48.eq_1 (.o (.o (.o (.o (.o (.ls 0 (.f [] [] [0,1,7,8] [] (fun (k54:Nat) (s50:Unit)=>[(8,eI (k54:Int))]) (fun k54 s50=>[]) (fun k54 s50=>.z) (fun s58=>.z))))))))
instance W19:∀ (p0:(List Int)) (p1:Int),Ct (Q5j p0 p1) fun res=>Z1 Tryz.prog 0o00246 [(.slice 1 (List.map rI p0)),(eI p1)] (fun d=>d=(eI res)):=
 au Tryz.func166 Q5j.eq_1 (.o (.o (.ls 0 (.f [] [] [0,1,7,8] [] (fun (k44:Nat) (s40:Unit)=>[(8,eI (k44:Int))]) (fun k44 s40=>[]) (fun k44 s40=>.z) (fun s48=>.z)))))
instance Z30:∀ (n:Nat) (p0:(List Q2)) (p1:Int) (p2:Int) (p3:(Q2→Q2→Option Int)) {p3_f:FuncId} {p3_c:List D} [p3_i:CF2 (fun a0=>(.agg (Z0 a0))) (fun a1=>(.agg (Z0 a1))) (fun r=>(eI r)) p3 p3_f p3_c],Ct (Y2 n p0 p1 p2 p3) fun res=>Y8 Tryz.prog 0o00234 [⟨2,List.map Z0 p0,0,0x0069⟩] [.sl 2 0 p0.length,(eI p1),(eI p2),.clos p3_f p3_c] (fun H d=>H=[some ⟨2,List.map Z0 res,0,0x0069⟩]∧d=.tup []):=
 au Tryz.func156 Y2.eq_1 (.o (.o (.o (.o (.o (.o (.o (.o (.w [] [0] [0,1,2,3,8] [0] (fun (s464:(List Q2)×Int)=>[(0,.sl 2 0 (s464.1).length),(8,eI s464.2)]) (fun s464=>[(0,some ⟨2,(List.map Z0 s464.1),0,0x0069⟩)]) (fun s464=>.i (.w [0,1,2,3,8] [0] [0,1,2,3,8,9] [0] (fun (s660:(List Q2)×Int)=>[(0,.sl 2 0 (s660.1).length),(9,eI s660.2)]) (fun s660=>[(0,some ⟨2,(List.map Z0 s660.1),0,0x0069⟩)]) (fun s660=>.g [0,1,2,3,8,9] [0] [] [] (.i (.o (.o (.o (.d [0,1,2,3,4,5,6,7,8,9,10,11,12,13,14,15,16] [0] [] (.i (.g [0,1,2,3,8,9] [0] [] [] (.o (.o (.o (.d [0,1,2,3,4,5,6,7,8,9,10,11,12,13,14,15,16,17] [0] [51,52] .z))))) .z))))) (.d [0,1,2,3,4,5,6,7,8,9,10,11,12,13,14,15,16] [] [] .z))) (fun s668=>.z)) .z) (fun s472=>.z))))))))))
instance W7t:∀ (p0:Int),Ct (Q5w p0) fun res=>Z1 Tryz.prog 0o00157 [(eI p0)] (fun d=>d=(eB res)):=
 au Tryz.func111 Q5w.eq_1 .z
instance X98:∀ (p0:W9) (q0:Q37),Ct (Q1x p0 q0) fun res=>Z1 Tryz.prog 0o00164 [(.agg (Q5n p0)),.cptr (Q8i q0)] (fun d=>d=(eB res)):=
 au Tryz.func116 Q1x.eq_1 .z
instance W98:∀ (n:Nat) (p0:(List Q2)),Ct (Q2n n p0) fun res=>Z1 Tryz.prog 0o00171 [(.slice 2 (List.map Z0 p0))] (fun d=>d=(.slice 2 (List.map Z0 res))):=
 au Tryz.func121 Q2n.eq_1 (.o (.o (.w [3] [8] [0,3,4] [8] (fun (s496:(List Q2)×Int)=>[(3,.sl 2 8 (s496.1).length),(4,eI s496.2)]) (fun s496=>[(8,some ⟨2,(List.map Z0 s496.1),0,0x0069⟩)]) (fun s496=>.i (.ls 0 (.f [0,3,4] [0] [0,3,4,5] [0] (fun (k587:Nat) (s583:(List Q2))=>[(3,.sl 2 0 (s583).length),(5,eI (k587:Int))]) (fun k587 s583=>[(0,some ⟨2,(List.map Z0 s583),0,0x0069⟩)]) (fun k587 s583=>.o (.j 8 0 [0,3,4,5] [0] (fun (s595:(List Q2))=>[(3,.sl 2 0 (s595).length)]) (fun s595=>[(0,some ⟨2,(List.map Z0 s595),0,0x0069⟩)]) (.i (.o (.o (.pF 153 .z))) .z) (fun _=>.z))) (fun s591=>.z))) .z) (fun s504=>.z))))
instance V1b:∀ (p0:(List Int)) (p1:Int),Ct (Q50 p0 p1) fun res=>Z1 Tryz.prog 0o00252 [(.slice 1 (List.map rI p0)),(eI p1)] (fun d=>d=(.slice 1 (List.map rI res))):=
 au Tryz.func170 Q50.eq_1 .z
instance V5o:∀ (p0:Q1) (p1:(List Int)),Ct (Q5q p0 p1) fun res=>Z1 Tryz.prog 0o00047 [(.agg (X2 p0)),(.slice 1 (List.map rI p1))] (fun d=>d=(.agg (X2 res))):=
 au Tryz.func39 Q5q.eq_1 (.o (.o (.ls 1 (.f [2,4] [0,8] [1,2,4,5] [0,8] (fun (k46:Nat) (s42:Q1)=>[(5,eI (k46:Int))]) (fun k46 s42=>[(0,some ⟨3,[(X2 s42)],0,0x001d⟩)]) (fun k46 s42=>.o (.g [1,2,4,5] [0,1] [] [] (.o (.d [0,1,2,3,4,5,6,7,8] [0] [2] .z)))) (fun s50=>.z)))))
instance W3b:∀ (p0:Q37) (p1:(List W9)),Ct (Q1v p0 p1) fun res=>Z1 Tryz.prog 0o00115 [(.agg (Q8i p0)),(.slice 4 (List.map Q5n p1))] (fun d=>d=(eB res)):=
 au Tryz.func77 Q1v.eq_1 (.o (.o (.i .z (.ls 1 (.f [] [] [1,2,5] [0] (fun (k179:Nat) (s175:Unit)=>[(5,eI (k179:Int))]) (fun k179 s175=>[]) (fun k179 s175=>.o (.j 6 0 [1,2,5] [0] (fun (s196:Unit)=>[]) (fun _=>[]) (.g [1,2,5] [0] [] [] (.d [0,1,2,3,4,5,6,7] [0] [] .z)) (fun _=>.z))) (fun s183=>.z))))))
end Go.Proofs.YtgjpamkllimhdaaGreat
