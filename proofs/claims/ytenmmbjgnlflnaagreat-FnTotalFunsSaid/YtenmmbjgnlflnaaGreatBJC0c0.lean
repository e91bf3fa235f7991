import Derived.Test.YtenmmbjgnlflnaaGreatBJMir
import Derived.Test.YtenmmbjgnlflnaaGreatBJAuto
set_option linter.unusedSimpArgs false
set_option linter.unusedVariables false
namespace Go.Proofs.YtenmmbjgnlflnaaGreat
open Go Go.RowKit
set_option maxRecDepth 100000
set_option maxHeartbeats 20000000
instance V3r:∀ (n:Nat) (p0:ByteArray) (p1:Int),Ct (Q08 n p0 p1) fun res=>Q7 Tryz.prog 0o00321 [(eS p0),(.val (.int .u8 p1))] (fun d=>d=(.slice 1 (List.map rS res))):=
 au Tryz.func209 Q08.eq_1 (.o (.o (.o (.w [5] [8] [0,1,5,6,7] [8] (fun (s203:(List ByteArray)×Int×Int)=>[(5,.sl 1 8 (s203.1).length),(6,eI s203.2.1),(7,eI s203.2.2)]) (fun s203=>[(8,some ⟨1,(List.map rS s203.1),0,0x0009⟩)]) (fun s203=>.i (.j 6 0 [0,1,5,6,7] [0] (fun (s230:(List ByteArray)×Int)=>[(5,.sl 1 0 (s230.1).length),(6,eI s230.2)]) (fun s230=>[(0,some ⟨1,(List.map rS s230.1),0,0x0009⟩)]) .z (fun _=>.z)) .z) (fun s211=>.z)))))
instance V66:∀ (p0:Int),Ct (Q93 p0) fun res=>Q7 Tryz.prog 0o00353 [(.val (.int .u8 p0))] (fun d=>d=(eB res)):=
 au Tryz.func235 Q93.eq_1 .z
instance V1a:∀ (n:Nat) (p0:(List Q4)) (p1:Int) (p2:Int),Ct (Z1c n p0 p1 p2) fun res=>Q7 Tryz.prog 0o00255 [(.slice 2 (List.map Z8 p0)),(eI p1),(eI p2)] (fun d=>d=(eB res)):=
 au Tryz.func173 Z1c.eq_1 (.o (.o (.o (.o (.w [] [] [0,1,2,7] [] (fun (s3024:Int)=>[(7,eI s3024)]) (fun s3024=>[]) (fun s3024=>.i (.j 4 1 [0,1,2,7] [] (fun (s3346:Unit)=>[]) (fun _=>[]) (.g [0,1,2,7] [] [] [] (.i (.o (.o (.d [0,1,2,3,4,5,6,7,8,9,10,11,12,13,14,15] [] [] .z))) (.d [0,1,2,3,4,5,6,7,8,9,10,11,12,13,14,15] [] [] .z))) (fun s3346=>.b fun (x3485:Q4)=>.le 0 1 3 Q8c x3485.ctors x3485 (.f [0,1,2,7] [] [0,1,2,7,8] [] (fun (k3592:Nat) (s3588:Unit)=>[(8,eI (k3592:Int))]) (fun k3592 s3588=>[]) (fun k3592 s3588=>.o (.j 7 0 [0,1,2,7,8] [] (fun (s3602:Unit)=>[]) (fun _=>[]) .z (fun s3602=>.j 9 0 [0,1,2,7,8] [] (fun (s3621:Unit)=>[]) (fun _=>[]) (.g [0,1,2,7,8] [] [] [] (.o (.i (.o (.d [0,1,2,3,4,5,6,7,8,9,10,11,12,13,14,15,16,17,18,19,20,21,22,23,24,25,26,27,28] [] [] .z)) (.d [0,1,2,3,4,5,6,7,8,9,10,11,12,13,14,15,16,17,18,19,20,21,22,23,24,25,26,27,28] [] [] .z)))) (fun _=>.z)))) (fun s3596=>.z)))) .z) (fun s3032=>.z))))))
instance W8k:∀ (p0:Q96) (p1:Int),Ct (Z0d p0 p1) fun res=>Q7 Tryz.prog 0o00257 [(.agg (Q8c p0)),(eI p1)] (fun d=>d=(eI res)):=
 au Tryz.func175 Z0d.eq_1 .z
instance V39:∀ (p0:(List Q5)) (p1:Int),Ct (Q2r p0 p1) fun res=>Q7 Tryz.prog 0o00424 [(.slice 3 (List.map X6 p0)),(eI p1)] (fun d=>d=(eI res)):=
 au Tryz.func276 Q2r.eq_1 (.o (.o (.ls 0 (.f [] [] [0,1,5] [] (fun (k44:Nat) (s40:Unit)=>[(5,eI (k44:Int))]) (fun k44 s40=>[]) (fun k44 s40=>.z) (fun s48=>.z)))))
instance V38:∀ (p0:Int),Ct (Q8e p0) fun res=>Q7 Tryz.prog 0o00356 [(eI p0)] (fun d=>d=(eI res)):=
 au Tryz.func238 Q8e.eq_1 .z
instance V17:∀ (n:Nat) (p0:Q0) (p1:Int),Ct (Q4w n p0 p1) fun res=>Q7 Tryz.prog 0o00455 [(.agg (Q3 p0)),(eI p1)] (fun d=>d=(eI res)):=
 ar (au Tryz.func301 Q4w.eq_2 (.o (.o (.b fun (p0:Q0)=>.o (.lc 0 5 6 Q3 p0.kids (.f [5] [] [1,2,5,6] [0] (fun (k80:Nat) (s76:Int)=>[(5,eI s76),(6,eI (k80:Int))]) (fun k80 s76=>[]) (fun k80 s76=>.z) (fun s84=>.z)))))))
instance X3i:∀ (p0:Q5) (q0:Int),Ct (Q0q p0 q0) fun res=>Q7 Tryz.prog 0o00514 [(.agg (X6 p0)),.cptr [(eI q0)]] (fun d=>d=(eB res)):=
 au Tryz.func332 Q0q.eq_1 .z
instance W4a:∀ (p0:Int),Ct (Q8s p0) fun res=>Q7 Tryz.prog 0o00375 [(.val (.int .u64 p0))] (fun d=>d=(eI res)):=
 au Tryz.func253 Q8s.eq_1 (.o (.j 1 0 [0,2] [] (fun (s2:Int×Int)=>[(0,.val (.int .u64 s2.1)),(2,eI s2.2)]) (fun _=>[]) .z (fun s2=>.j 4 0 [0,2] [] (fun (s7:Int×Int)=>[(0,.val (.int .u64 s7.1)),(2,eI s7.2)]) (fun _=>[]) .z (fun s7=>.j 7 0 [0,2] [] (fun (s12:Int×Int)=>[(0,.val (.int .u64 s12.1)),(2,eI s12.2)]) (fun _=>[]) .z (fun _=>.z)))))
instance W07:∀ (p0:X1) (q0:Q4u),Ct (Q5s p0 q0) fun res=>Q7 Tryz.prog 0o00274 [(.agg (Q02 p0)),.cptr (Q8q q0)] (fun d=>d=(eB res)):=
 au Tryz.func188 Q5s.eq_1 .z
instance X4r:∀ (p0:(List X1)) (p1:(X1→Option Bool)) {p1_f:FuncId} {p1_c:List D} [p1_i:CF1 (fun a0=>(.agg (Q02 a0))) (fun r=>(eB r)) p1 p1_f p1_c],Ct (Q1x p0 p1) fun res=>Q7 Tryz.prog 0o00214 [(.slice 4 (List.map Q02 p0)),.clos p1_f p1_c] (fun d=>d=(eI res)):=
 au Tryz.func140 Q1x.eq_1 (.o (.o (.o (.o (.o (.ls 0 (.f [] [] [0,1,7,8] [] (fun (k54:Nat) (s50:Unit)=>[(8,eI (k54:Int))]) (fun k54 s50=>[]) (fun k54 s50=>.z) (fun s58=>.z))))))))
instance V3g:∀ (n:Nat) (p0:Q1),Ct (Q3d n p0) fun res=>Q7 Tryz.prog 0o00211 [(.agg (X0 p0))] (fun d=>d=(.agg (X0 res))):=
 ar (au Tryz.func137 Q3d.eq_2 (.o (.o (.b fun (p0:Q1)=>.pC 56 2 3 0x001b (.lc 0 2 3 X0 p0.kids (.f [2,3] [8,56,80] [1,2,3,4] [0,8,56,80] (fun (k56:Nat) (s52:(List Q1))=>[(4,eI (k56:Int))]) (fun k56 s52=>[(1000000056,some ⟨3,[[(eI p0.ctor),(eI p0.n),(.sl 3 80 (s52).length)]],0,0x001b⟩),(80,some ⟨3,(List.map X0 s52),0,0x001b⟩)]) (fun k56 s52=>.o (.g [1,2,3,4] [0,1,2,3] [] [(1000000002,some ⟨3,[[(eI p0.ctor),(eI p0.n),(.sl 3 3 (s52).length)]],0,0x001b⟩)] (.o (.o (.d [0,1,2,3,4,5,6,7,8,9,10,11] [0,2] [27] .z))))) (fun s60=>.z)))))))
instance V19:∀ (n:Nat) (p0:Q1) (p1:Int),Ct (Q4x n p0 p1) fun res=>Q7 Tryz.prog 0o00177 [(.agg (X0 p0)),(eI p1)] (fun d=>d=(eI res)):=
 ar (au Tryz.func127 Q4x.eq_2 (.o (.o (.b fun (p0:Q1)=>.o (.lc 0 2 3 X0 p0.kids (.f [5] [] [1,2,5,6] [0] (fun (k80:Nat) (s76:Int)=>[(5,eI s76),(6,eI (k80:Int))]) (fun k80 s76=>[]) (fun k80 s76=>.z) (fun s84=>.z)))))))
instance W8e:∀ (p0:(List Q9f)) (p1:Q1),Ct (Z0b p0 p1) fun res=>Q7 Tryz.prog 0o00413 [(.slice 9 (List.map Q6e p0)),(.agg (X0 p1))] (fun d=>d=.tup [(.agg (Q80 res.1)),(eB res.2)]):=
 au Tryz.func267 Z0b.eq_1 (.o (.o (.ls 0 (.f [4] [8] [0,3,4,6] [0,8] (fun (k159:Nat) (s155:Unit)=>[(6,eI (k159:Int))]) (fun k159 s155=>[]) (fun k159 s155=>.o (.j 4 0 [0,3,4,6] [0,1] (fun (s175:Unit)=>[]) (fun _=>[]) .z (fun _=>.z))) (fun s163=>.z)))))
instance V1k:∀ (p0:(List X1)) (p1:Int),Ct (Q68 p0 p1) fun res=>Q7 Tryz.prog 0o00232 [(.slice 4 (List.map Q02 p0)),(eI p1)] (fun d=>d=(.agg (X0 res))):=
 au Tryz.func154 Q68.eq_1 (.o (.o (.ls 0 (.f [4] [0] [0,1,4,5] [0] (fun (k44:Nat) (s40:Unit)=>[(5,eI (k44:Int))]) (fun k44 s40=>[]) (fun k44 s40=>.z) (fun s48=>.z)))))
end Go.Proofs.YtenmmbjgnlflnaaGreat
