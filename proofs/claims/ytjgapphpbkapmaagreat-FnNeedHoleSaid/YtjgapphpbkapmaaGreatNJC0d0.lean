import Derived.Test.YtjgapphpbkapmaaGreatNJMir
import Derived.Test.YtjgapphpbkapmaaGreatNJAuto
set_option linter.unusedSimpArgs false
set_option linter.unusedVariables false
namespace Go.Proofs.YtjgapphpbkapmaaGreat
open Go Go.RowKit
set_option maxRecDepth 100000
set_option maxHeartbeats 20000000
instance Z7t:∀ (p0:(List Q5)) (p1:(Q5→Option Bool)) {p1_f:FuncId} {p1_c:List D} [p1_i:CF1 (fun a0=>(.agg (W1 a0))) (fun r=>(eB r)) p1 p1_f p1_c],Ct (Q3b p0 p1) fun res=>Z1 Tryz.prog 0o00317 [(.slice 2 (List.map W1 p0)),.clos p1_f p1_c] (fun d=>d=(eI res)):=
 au Tryz.func207 Q3b.eq_1 (.o (.o (.o (.o (.o (.ls 0 (.f [] [] [0,1,7,8] [] (fun (k54:Nat) (s50:Unit)=>[(8,eI (k54:Int))]) (fun k54 s50=>[]) (fun k54 s50=>.z) (fun s58=>.z))))))))
instance Z8p:∀ (p0:(List Q6)) (p1:Q6),Ct (Q21 p0 p1) fun res=>Z1 Tryz.prog 0o00414 [(.slice 3 (List.map V1 p0)),(.agg (V1 p1))] (fun d=>d=(eI res)):=
 au Tryz.func268 Q21.eq_1 (.o (.o (.ls 0 (.f [] [] [0,3,7,8] [0] (fun (k44:Nat) (s40:Unit)=>[(8,eI (k44:Int))]) (fun k44 s40=>[]) (fun k44 s40=>.o (.g [0,3,5,7,8] [0] [] [] (.d [0,1,2,3,4,5] [0] [] .z))) (fun s48=>.z)))))
instance Z8q:∀ (p0:(List Grow)) (p1:(Grow→Option Bool)) {p1_f:FuncId} {p1_c:List D} [p1_i:CF1 (fun a0=>(.agg (Q37 a0))) (fun r=>(eB r)) p1 p1_f p1_c],Ct (Q0w p0 p1) fun res=>Z1 Tryz.prog 0o00361 [(.slice 3 (List.map Q37 p0)),.clos p1_f p1_c] (fun d=>d=(eI res)):=
 au Tryz.func241 Q0w.eq_1 (.o (.o (.o (.o (.o (.ls 0 (.f [] [] [0,1,7,8] [] (fun (k54:Nat) (s50:Unit)=>[(8,eI (k54:Int))]) (fun k54 s50=>[]) (fun k54 s50=>.z) (fun s58=>.z))))))))
instance Z7x:∀ (p0:Grow) (q0:Grow),Ct (Y6 p0 q0) fun res=>Z1 Tryz.prog 0o00303 [(.agg (Q37 p0)),.cptr (Q37 q0)] (fun d=>d=(eB res)):=
 au Tryz.func195 Y6.eq_1 .z
instance X9k:∀ (p0:Int),Ct (Q3z p0) fun res=>Z1 Tryz.prog 0o00247 [(eI p0)] (fun d=>d=(eB res)):=
 au Tryz.func167 Q3z.eq_1 .z
instance Q9z:∀ (n:Nat) (p0:(List Q1)) (p1:Int) (p2:Int) (p3:(Q1→Q1→Option Int)) {p3_f:FuncId} {p3_c:List D} [p3_i:CF2 (fun a0=>(.agg (Q8 a0))) (fun a1=>(.agg (Q8 a1))) (fun r=>(eI r)) p3 p3_f p3_c],Ct (W6 n p0 p1 p2 p3) fun res=>J2 Tryz.prog 0o00325 [⟨2,List.map Q8 p0,0,0x008b⟩] [.sl 2 0 p0.length,(eI p1),(eI p2),.clos p3_f p3_c] (fun H d=>H=[some ⟨2,List.map Q8 res,0,0x008b⟩]∧d=.tup []):=
 au Tryz.func213 W6.eq_1 (.o (.o (.o (.o (.o (.o (.o (.o (.w [] [0] [0,1,2,3,8] [0] (fun (s464:(List Q1)×Int)=>[(0,.sl 2 0 (s464.1).length),(8,eI s464.2)]) (fun s464=>[(0,some ⟨2,(List.map Q8 s464.1),0,0x008b⟩)]) (fun s464=>.i (.w [0,1,2,3,8] [0] [0,1,2,3,8,9] [0] (fun (s660:(List Q1)×Int)=>[(0,.sl 2 0 (s660.1).length),(9,eI s660.2)]) (fun s660=>[(0,some ⟨2,(List.map Q8 s660.1),0,0x008b⟩)]) (fun s660=>.g [0,1,2,3,8,9] [0] [] [] (.i (.o (.o (.o (.d [0,1,2,3,4,5,6,7,8,9,10,11,12,13,14,15,16] [0] [] (.i (.g [0,1,2,3,8,9] [0] [] [] (.o (.o (.o (.d [0,1,2,3,4,5,6,7,8,9,10,11,12,13,14,15,16,17] [0] [51,52] .z))))) .z))))) (.d [0,1,2,3,4,5,6,7,8,9,10,11,12,13,14,15,16] [] [] .z))) (fun s668=>.z)) .z) (fun s472=>.z))))))))))
instance X5n:∀ (p0:Int),Ct (Q5t p0) fun res=>Z1 Tryz.prog 0o00336 [(.val (.int .u64 p0))] (fun d=>d=(eI res)):=
 au Tryz.func222 Q5t.eq_1 (.o (.j 1 0 [0,2] [] (fun (s2:Int×Int)=>[(0,.val (.int .u64 s2.1)),(2,eI s2.2)]) (fun _=>[]) .z (fun s2=>.j 4 0 [0,2] [] (fun (s7:Int×Int)=>[(0,.val (.int .u64 s7.1)),(2,eI s7.2)]) (fun _=>[]) .z (fun s7=>.j 7 0 [0,2] [] (fun (s12:Int×Int)=>[(0,.val (.int .u64 s12.1)),(2,eI s12.2)]) (fun _=>[]) .z (fun _=>.z)))))
instance W1k:∀ (p0:(List Int)),Ct (Q1n p0) fun res=>J2 Tryz.prog 0o00106 [] [(.slice 1 (List.map (rK .u8) p0))] (fun H d=>H=[some ⟨2,[(V0 res)],0,0x00c5⟩]∧d=.ptr 2 0 0 0):=
 au Tryz.func70 Q1n.eq_1 (.o (.j 1 0 [0] [] (fun (s3:(List Int))=>[(0,.slice 1 (List.map (rK .u8) s3))]) (fun _=>[]) .z (fun _=>.z)))
instance X98:∀ (p0:Q67) (p1:Int),Ct (Q6v p0 p1) fun res=>Z1 Tryz.prog 0o00346 [(.agg (Q57 p0)),(eI p1)] (fun d=>d=(eI res)):=
 au Tryz.func230 Q6v.eq_1 .z
instance W3f:∀ (p0:(List Q6)) (p1:Int),Ct (Q28 p0 p1) fun res=>Z1 Tryz.prog 0o00410 [(.slice 3 (List.map V1 p0)),(eI p1)] (fun d=>d=(eI res)):=
 au Tryz.func264 Q28.eq_1 (.o (.o (.ls 0 (.f [] [] [0,1,5] [] (fun (k44:Nat) (s40:Unit)=>[(5,eI (k44:Int))]) (fun k44 s40=>[]) (fun k44 s40=>.z) (fun s48=>.z)))))
instance Z5x:∀ (p0:(List Q9)) (p1:(Q9→Option Bool)) {p1_f:FuncId} {p1_c:List D} [p1_i:CF1 (fun a0=>(.agg (Y8 a0))) (fun r=>(eB r)) p1 p1_f p1_c],Ct (Q0g p0 p1) fun res=>Z1 Tryz.prog 0o00213 [(.slice 9 (List.map Y8 p0)),.clos p1_f p1_c] (fun d=>d=(eI res)):=
 au Tryz.func139 Q0g.eq_1 (.o (.o (.o (.o (.o (.ls 0 (.f [] [] [0,1,7,8] [] (fun (k54:Nat) (s50:Unit)=>[(8,eI (k54:Int))]) (fun k54 s50=>[]) (fun k54 s50=>.z) (fun s58=>.z))))))))
instance Z4k:∀ (p0:(List Q1)) (p1:(Q1→Option Bool)) {p1_f:FuncId} {p1_c:List D} [p1_i:CF1 (fun a0=>(.agg (Q8 a0))) (fun r=>(eB r)) p1 p1_f p1_c],Ct (Q08 p0 p1) fun res=>Z1 Tryz.prog 0o00311 [(.slice 2 (List.map Q8 p0)),.clos p1_f p1_c] (fun d=>d=(eI res)):=
 au Tryz.func201 Q08.eq_1 (.o (.o (.o (.o (.o (.ls 0 (.f [] [] [0,1,7,8] [] (fun (k54:Nat) (s50:Unit)=>[(8,eI (k54:Int))]) (fun k54 s50=>[]) (fun k54 s50=>.z) (fun s58=>.z))))))))
instance W1m:∀ (p0:Z2),Ct (Q5y p0) fun res=>Z1 Tryz.prog 0o00313 [(.agg (V2 p0))] (fun d=>d=(eB res)):=
 au Tryz.func203 Q5y.eq_1 .z
instance X94:∀ (p0:(List (List Q0))),Ct (Q2t p0) fun res=>Z1 Tryz.prog 0o00254 [(.slice 1 (List.map (rL 6 Q7) p0))] (fun d=>d=(.slice 1 (List.map (rL 6 Q7) res))):=
 au Tryz.func172 Q2t.eq_1 (.o (.pF 8 (.ls 0 (.f [3] [16] [0,3,4] [16] (fun (k12196:Nat) (s12192:(List (List Q0)))=>[(3,.sl 1 16 (s12192).length),(4,eI (k12196:Int))]) (fun k12196 s12192=>[(16,some ⟨1,(List.map (rL 6 Q7) s12192),0,0x005e⟩)]) (fun k12196 s12192=>.b fun (x12197:(List Q0))=>.ll 0 (.f [0,4,5] [33] [0,3,4,5,6] [0,33] (fun (k13570:Nat) (s13566:(List (List Q0)))=>[(5,.sl 1 33 (s13566).length),(6,eI (k13570:Int))]) (fun k13570 s13566=>[(33,some ⟨1,(List.map (rL 6 Q7) s13566),0,0x005e⟩)]) (fun k13570 s13566=>.o (.i (.le 0 0 6 Q7 x12197 x12197 (.f [0,3,4,5,6] [0,1] [0,3,4,5,6,7] [0,1] (fun (k13668:Nat) (s13664:(List (List Q0)))=>[(5,.sl 1 1 (s13664).length),(7,eI (k13668:Int))]) (fun k13668 s13664=>[(1,some ⟨1,(List.map (rL 6 Q7) s13664),0,0x005e⟩)]) (fun k13668 s13664=>.o (.i (.g [0,3,4,5,6,7] [0,1] [] [] (.o (.o (.o (.dz [0,2,3,4,5,7,8,9,10,11,12,13,1,6,14,15,16,17,18] [0] [1048632] [] (.pF 2097168 .z)))))) .z)) (fun s13672=>.z))) .z)) (fun s13574=>.z))) (fun s12200=>.z)))))
instance W5i:∀ (p0:(List W8)) (p1:Int) (p2:Int),Ct (Q4z p0 p1 p2) fun res=>Z1 Tryz.prog 0o00430 [(.slice 3 (List.map Q15 p0)),(eI p1),(eI p2)] (fun d=>d=(eB res)):=
 au Tryz.func280 Q4z.eq_1 (.o (.o (.o (.ls 0 (.f [] [] [0,1,2,7] [] (fun (k139:Nat) (s135:Unit)=>[(7,eI (k139:Int))]) (fun k139 s135=>[]) (fun k139 s135=>.o (.j 4 0 [0,1,2,7] [] (fun (s153:Unit)=>[]) (fun _=>[]) .z (fun _=>.z))) (fun s143=>.z))))))
end Go.Proofs.YtjgapphpbkapmaaGreat
