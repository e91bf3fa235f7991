import Derived.Test.YtenmmbjgnlflnaaGreatJMir
import Derived.Test.YtenmmbjgnlflnaaGreatJAuto
set_option linter.unusedSimpArgs false
set_option linter.unusedVariables false
namespace Go.Proofs.YtenmmbjgnlflnaaGreat
open Go Go.RowKit
set_option maxRecDepth 100000
set_option maxHeartbeats 20000000
instance W3n:∀ (n:Nat) (p0:ByteArray) (p1:Int),Ct (Y3 n p0 p1) fun res=>Q6 Tryz.prog 0o00321 [(eS p0),(.val (.int .u8 p1))] (fun d=>d=(.slice 1 (List.map rS res))):=
 au Tryz.func209 Y3.eq_1 (.o (.o (.o (.w [5] [8] [0,1,5,6,7] [8] (fun (s203:(List ByteArray)×Int×Int)=>[(5,.sl 1 8 (s203.1).length),(6,eI s203.2.1),(7,eI s203.2.2)]) (fun s203=>[(8,some ⟨1,(List.map rS s203.1),0,0x0009⟩)]) (fun s203=>.i (.j 6 0 [0,1,5,6,7] [0] (fun (s230:(List ByteArray)×Int)=>[(5,.sl 1 0 (s230.1).length),(6,eI s230.2)]) (fun s230=>[(0,some ⟨1,(List.map rS s230.1),0,0x0009⟩)]) .z (fun _=>.z)) .z) (fun s211=>.z)))))
instance W3i:∀ (p0:(List ByteArray)) (p1:ByteArray),Ct (Q8p p0 p1) fun res=>Q6 Tryz.prog 0o00460 [(.slice 1 (List.map rS p0)),(eS p1)] (fun d=>d=(eI res)):=
 au Tryz.func304 Q8p.eq_1 (.o (.o (.i .z (.ls 0 (.f [] [] [0,1,5] [] (fun (k46:Nat) (s42:Unit)=>[(5,eI (k46:Int))]) (fun k46 s42=>[]) (fun k46 s42=>.z) (fun s50=>.z))))))
instance W3h:∀ (p0:Q64) (p1:Int),Ct (Q8o p0 p1) fun res=>Q6 Tryz.prog 0o00327 [(.agg (Q54 p0)),(eI p1)] (fun d=>d=(eB res)):=
 au Tryz.func215 Q8o.eq_1 .z
instance X5u:∀ (p0:(List GFun)),Ct (Q44 p0) fun res=>Q0o Tryz.prog 0o00115 [⟨6,List.map J1 p0,0,0x0035⟩] [.sl 6 0 p0.length] (fun H d=>H=[some ⟨6,List.map J1 p0,0,0x0035⟩]∧d=(.slice 4 (List.map W1 res))):=
 au Tryz.func77 Q44.eq_1 (.o (.ll 0 (.f [3] [0,9] [0,3,4] [0,9] (fun (k46:Nat) (s42:(List Q8))=>[(3,.sl 4 9 (s42).length),(4,eI (k46:Int))]) (fun k46 s42=>[(9,some ⟨4,(List.map W1 s42),0,0x0032⟩)]) (fun k46 s42=>.z) (fun s50=>.pF 1 .z))))
instance X9m:∀ (p0:(List Q2)),Ct (Q76 p0) fun res=>Q6 Tryz.prog 0o00420 [(.slice 2 (List.map Z5 p0))] (fun d=>d=(.slice 1 (List.map rS res))):=
 au Tryz.func272 Q76.eq_1 (.o (.ls 0 (.f [3] [8] [0,3,4] [8] (fun (k46:Nat) (s42:(List ByteArray))=>[(3,.sl 1 8 (s42).length),(4,eI (k46:Int))]) (fun k46 s42=>[(8,some ⟨1,(List.map rS s42),0,0x0009⟩)]) (fun k46 s42=>.z) (fun s50=>.z))))
instance W37:∀ (p0:ByteArray) (p1:Int) (p2:Int),Ct (Q0h p0 p1 p2) fun res=>Q6 Tryz.prog 0o00535 [(eS p0),(eI p1),(.val (.int .u8 p2))] (fun d=>d=(eB res)):=
 au Tryz.func349 Q0h.eq_1 .z
instance X2l:∀ (p0:ByteArray),Ct (Q4p p0) fun res=>Q6 Tryz.prog 0o00464 [(eS p0)] (fun d=>d=(.agg (Q5j res))):=
 au Tryz.func308 Q4p.eq_1 (.o (.i .z (.g [0,2] [0] [] [] (.b fun (x3:Int)=>.b fun (x4:Int)=>.d [0,1,2,3,4,5,6,7,8,9,10] [] [] (.j 4 0 [2,3] [0,1] (fun (s8:Int)=>[]) (fun s8=>[(1,some ⟨3,[[(eI s8),(eI (wsub .i64 (wcv .i64 x3) 97)),(eI (wsub .i64 (wcv .i64 x4) 48))]],0,0x0046⟩)]) .z (fun _=>.z))))))
instance W3f:∀ (p0:Q3),Ct (Q8n p0) fun res=>Q6 Tryz.prog 0o00223 [(.agg (Z6 p0))] (fun d=>d=(eI res)):=
 au Tryz.func147 Q8n.eq_1 .z
instance X9v:∀ (p0:(List GFun)),Ct (Q2x p0) fun res=>Q6 Tryz.prog 0o00105 [(.slice 6 (List.map J1 p0))] (fun d=>d=(.slice 4 (List.map W1 res))):=
 au Tryz.func69 Q2x.eq_1 (.o (.pN 3 4 0x0032 (.ls 0 (.f [3] [40] [3,6,7,8] [40] (fun (k46:Nat) (s42:(List Q8))=>[(3,.sl 4 40 (s42).length),(8,eI (k46:Int))]) (fun k46 s42=>[(40,some ⟨4,(List.map W1 s42),0,0x0032⟩)]) (fun k46 s42=>.z) (fun s50=>.z)))))
instance W7l:∀ (p0:Q5) (p1:Bool) (p2:Bool) (p3:Bool) (p4:Int),Ct (Q2q p0 p1 p2 p3 p4) fun res=>Q6 Tryz.prog 0o00510 [(.agg (X7 p0)),(eB p1),(eB p2),(eB p3),(eI p4)] (fun d=>d=(eB res)):=
 au Tryz.func328 Q2q.eq_1 .z
instance W26:∀ (p0:(List Q2)) (p1:Q3),Ct (Q1l p0 p1) fun res=>Q6 Tryz.prog 0o00273 [(.slice 2 (List.map Z5 p0)),(.agg (Z6 p1))] (fun d=>d=(.slice 1 (List.map rI res))):=
 au Tryz.func187 Q1l.eq_1 (.o (.o (.j 2 0 [5] [9000] (fun (s116:(List Int))=>[(5,.sl 1 9000 (s116).length)]) (fun s116=>[(9000,some ⟨1,(List.map rI s116),0,0x0003⟩)]) (.i (.o (.pN 5 1 0x0003 (.ls 16 (.f [5] [112] [3,5,16,17,18] [0,112] (fun (k198:Nat) (s194:(List Int))=>[(5,.sl 1 112 (s194).length),(18,eI (k198:Int))]) (fun k198 s194=>[(112,some ⟨1,(List.map rI s194),0,0x0003⟩)]) (fun k198 s194=>.o (.j 5 0 [3,5,16,17,18] [0,1] (fun (s217:(List Int))=>[(5,.sl 1 1 (s217).length)]) (fun s217=>[(1,some ⟨1,(List.map rI s217),0,0x0003⟩)]) .z (fun _=>.z))) (fun s202=>.z))))) (.pN 5 1 0x0003 .z)) (fun _=>.z))))
instance Z10:∀ (n:Nat) (p0:(List Z3)) (p1:Int) (p2:Int) (p3:(Z3→Z3→Option Int)) {p3_f:FuncId} {p3_c:List D} [p3_i:CF2 (fun a0=>(.agg (V9 a0))) (fun a1=>(.agg (V9 a1))) (fun r=>(eI r)) p3 p3_f p3_c],Ct (V2 n p0 p1 p2 p3) fun res=>Q0o Tryz.prog 0o00515 [⟨4,List.map V9 p0,0,0x00d1⟩] [.sl 4 0 p0.length,(eI p1),(eI p2),.clos p3_f p3_c] (fun H d=>H=[some ⟨4,List.map V9 res,0,0x00d1⟩]∧d=.tup []):=
 au Tryz.func333 V2.eq_1 (.o (.o (.o (.o (.o (.o (.o (.o (.w [] [0] [0,1,2,3,8] [0] (fun (s464:(List Z3)×Int)=>[(0,.sl 4 0 (s464.1).length),(8,eI s464.2)]) (fun s464=>[(0,some ⟨4,(List.map V9 s464.1),0,0x00d1⟩)]) (fun s464=>.i (.w [0,1,2,3,8] [0] [0,1,2,3,8,9] [0] (fun (s660:(List Z3)×Int)=>[(0,.sl 4 0 (s660.1).length),(9,eI s660.2)]) (fun s660=>[(0,some ⟨4,(List.map V9 s660.1),0,0x00d1⟩)]) (fun s660=>.g [0,1,2,3,8,9] [0] [] [] (.i (.o (.o (.o (.d [0,1,2,3,4,5,6,7,8,9,10,11,12,13,14,15,16] [0] [] (.i (.g [0,1,2,3,8,9] [0] [] [] (.o (.o (.o (.d [0,1,2,3,4,5,6,7,8,9,10,11,12,13,14,15,16,17] [0] [51,52] .z))))) .z))))) (.d [0,1,2,3,4,5,6,7,8,9,10,11,12,13,14,15,16] [] [] .z))) (fun s668=>.z)) .z) (fun s472=>.z))))))))))
instance X2r:∀ (p0:Z3) (q0:Q2i),Ct (Q38 p0 q0) fun res=>Q6 Tryz.prog 0o00274 [(.agg (V9 p0)),.cptr (Q5j q0)] (fun d=>d=(eB res)):=
 au Tryz.func188 Q38.eq_1 .z
instance W7f:∀ (p0:Q0) (p1:(List Int)),Ct (Q8l p0 p1) fun res=>Q6 Tryz.prog 0o00067 [(.agg (Z2 p0)),(.slice 1 (List.map rI p1))] (fun d=>d=(.agg (Z2 res))):=
 au Tryz.func55 Q8l.eq_1 (.o (.o (.ls 1 (.f [2,4] [0,8] [1,2,4,5] [0,8] (fun (k46:Nat) (s42:Q0)=>[(5,eI (k46:Int))]) (fun k46 s42=>[(0,some ⟨3,[(Z2 s42)],0,0x001b⟩)]) (fun k46 s42=>.o (.g [1,2,4,5] [0,1] [] [] (.o (.d [0,1,2,3,4,5,6,7,8] [0] [2] .z)))) (fun s50=>.z)))))
end Go.Proofs.YtenmmbjgnlflnaaGreat
