import Derived.Test.YtfhpjeogjcfkaaaGreatBJMir
import Derived.Test.YtfhpjeogjcfkaaaGreatBJAuto
set_option linter.unusedSimpArgs false
set_option linter.unusedVariables false
namespace Go.Proofs.YtfhpjeogjcfkaaaGreat
open Go Go.RowKit
set_option maxRecDepth 100000
set_option maxHeartbeats 20000000
instance V2l:Ct (Q5z) fun res=>Q8 Tryz.prog 0o00464 [] (fun d=>d=(.slice 1 (List.map rS res))):=
 au Tryz.func308 Q5z.eq_1 .z
instance V7l:∀ (p0:Int),Ct (Z1b p0) fun res=>Q8 Tryz.prog 0o00517 [(.val (.int .u8 p0))] (fun d=>d=(eB res)):=
 au Tryz.func335 Z1b.eq_1 .z
instance V2k:∀ (n:Nat) (p0:(List Q4)) (p1:Int) (p2:Int),Ct (Z1j n p0 p1 p2) fun res=>Q8 Tryz.prog 0o00443 [(.slice 2 (List.map W5 p0)),(eI p1),(eI p2)] (fun d=>d=(eB res)):=
 au Tryz.func291 Z1j.eq_1 (.o (.o (.o (.o (.w [] [] [0,1,2,7] [] (fun (s3024:Int)=>[(7,eI s3024)]) (fun s3024=>[]) (fun s3024=>.i (.j 4 1 [0,1,2,7] [] (fun (s3346:Unit)=>[]) (fun _=>[]) (.g [0,1,2,7] [] [] [] (.i (.o (.o (.d [0,1,2,3,4,5,6,7,8,9,10,11,12,13,14,15] [] [] .z))) (.d [0,1,2,3,4,5,6,7,8,9,10,11,12,13,14,15] [] [] .z))) (fun s3346=>.b fun (x3485:Q4)=>.le 0 1 3 Q8d x3485.ctors x3485 (.f [0,1,2,7] [] [0,1,2,7,8] [] (fun (k3592:Nat) (s3588:Unit)=>[(8,eI (k3592:Int))]) (fun k3592 s3588=>[]) (fun k3592 s3588=>.o (.j 7 0 [0,1,2,7,8] [] (fun (s3602:Unit)=>[]) (fun _=>[]) .z (fun s3602=>.j 9 0 [0,1,2,7,8] [] (fun (s3621:Unit)=>[]) (fun _=>[]) (.g [0,1,2,7,8] [] [] [] (.o (.i (.o (.d [0,1,2,3,4,5,6,7,8,9,10,11,12,13,14,15,16,17,18,19,20,21,22,23,24,25,26,27,28] [] [] .z)) (.d [0,1,2,3,4,5,6,7,8,9,10,11,12,13,14,15,16,17,18,19,20,21,22,23,24,25,26,27,28] [] [] .z)))) (fun _=>.z)))) (fun s3596=>.z)))) .z) (fun s3032=>.z))))))
instance V0k:∀ (p0:Int),Ct (Q54 p0) fun res=>Q8 Tryz.prog 0o00274 [(eI p0)] (fun d=>d=(eB res)):=
 au Tryz.func188 Q54.eq_1 .z
instance V0g:∀ (p0:(List Q4)) (p1:Q7) (p2:Int),Ct (Q2q p0 p1 p2) fun res=>Q8 Tryz.prog 0o00204 [(.slice 2 (List.map W5 p0)),(.agg (W3 p1)),(eI p2)] (fun d=>d=(.slice 2 (List.map W3 res))):=
 au Tryz.func132 Q2q.eq_1 (.o (.o (.o (.o (.o (.j 3 0 [7,8] [88] (fun (s4:Int)=>[(8,eI s4)]) (fun _=>[]) .z (fun s4=>.pN 9 2 0x0019 (.ls 28 (.f [9] [41] [8,9,28,29,30] [41] (fun (k103:Nat) (s99:(List Q7))=>[(9,.sl 2 41 (s99).length),(30,eI (k103:Int))]) (fun k103 s99=>[(41,some ⟨2,(List.map W3 s99),0,0x0019⟩)]) (fun k103 s99=>.b fun (x104:Q7)=>.j 9 0 [8,9,11,28,29,30] [0,25] (fun (s115:Int)=>[]) (fun s115=>[(25,some ⟨2,[[(eI x104.data),(eI s115)]],0,0x0019⟩)]) .z (fun _=>.z)) (fun s107=>.z))))))))))
instance V34:∀ (p0:(List Q4)) (p1:Q7),Ct (Q2l p0 p1) fun res=>Q8 Tryz.prog 0o00262 [(.slice 2 (List.map W5 p0)),(.agg (W3 p1))] (fun d=>d=(.slice 1 (List.map rI res))):=
 au Tryz.func178 Q2l.eq_1 (.o (.o (.j 2 0 [5] [9000] (fun (s116:(List Int))=>[(5,.sl 1 9000 (s116).length)]) (fun s116=>[(9000,some ⟨1,(List.map rI s116),0,0x0003⟩)]) (.i (.o (.pN 5 1 0x0003 (.ls 16 (.f [5] [112] [3,5,16,17,18] [0,112] (fun (k198:Nat) (s194:(List Int))=>[(5,.sl 1 112 (s194).length),(18,eI (k198:Int))]) (fun k198 s194=>[(112,some ⟨1,(List.map rI s194),0,0x0003⟩)]) (fun k198 s194=>.o (.j 5 0 [3,5,16,17,18] [0,1] (fun (s217:(List Int))=>[(5,.sl 1 1 (s217).length)]) (fun s217=>[(1,some ⟨1,(List.map rI s217),0,0x0003⟩)]) .z (fun _=>.z))) (fun s202=>.z))))) (.pN 5 1 0x0003 .z)) (fun _=>.z))))
instance X2j:∀ (p0:(List Z4)) (p1:(Z4→Option Bool)) {p1_f:FuncId} {p1_c:List D} [p1_i:CF1 (fun a0=>(.agg (Y8 a0))) (fun r=>(eB r)) p1 p1_f p1_c],Ct (Q3x p0 p1) fun res=>Q8 Tryz.prog 0o00547 [(.slice 3 (List.map Y8 p0)),.clos p1_f p1_c] (fun d=>d=(eI res)):=
 au Tryz.func359 Q3x.eq_1 (.o (.o (.o (.o (.o (.ls 0 (.f [] [] [0,1,7,8] [] (fun (k54:Nat) (s50:Unit)=>[(8,eI (k54:Int))]) (fun k54 s50=>[]) (fun k54 s50=>.z) (fun s58=>.z))))))))
instance X6l:∀ (p0:(List Z4)) (p1:Z4),Ct (Q3s p0 p1) fun res=>Q8 Tryz.prog 0o00476 [(.slice 3 (List.map Y8 p0)),(.agg (Y8 p1))] (fun d=>d=(eI res)):=
 au Tryz.func318 Q3s.eq_1 (.o (.o (.ls 0 (.f [] [] [0,3,7,8] [0] (fun (k44:Nat) (s40:Unit)=>[(8,eI (k44:Int))]) (fun k44 s40=>[]) (fun k44 s40=>.o (.g [0,3,5,7,8] [0] [] [] (.d [0,1,2,3,4,5] [0] [] .z))) (fun s48=>.z)))))
instance V9i:∀ (p0:Q2) (p1:(List Int)),Ct (Q6k p0 p1) fun res=>Q8 Tryz.prog 0o00146 [(.agg (X4 p0)),(.slice 1 (List.map rI p1))] (fun d=>d=(.agg (X4 res))):=
 au Tryz.func102 Q6k.eq_1 (.o (.o (.ls 1 (.f [2,4] [0,8] [2,4,7,8,9] [0,8] (fun (k46:Nat) (s42:Q2)=>[(9,eI (k46:Int))]) (fun k46 s42=>[(0,some ⟨3,[(X4 s42)],0,0x001d⟩)]) (fun k46 s42=>.z) (fun s50=>.z)))))
instance V4q:∀ (p0:(List Int)) (p1:Int),Ct (Q5b p0 p1) fun res=>Q8 Tryz.prog 0o00407 [(.slice 1 (List.map rI p0)),(eI p1)] (fun d=>d=(.slice 1 (List.map rI res))):=
 au Tryz.func263 Q5b.eq_1 .z
instance W79:∀ (p0:(List Int)) (p1:Q7),Ct (Q5r p0 p1) fun res=>Q8 Tryz.prog 0o00323 [.cptr (List.map cI p0),(.agg (W3 p1))] (fun d=>d=(eI res)):=
 au Tryz.func211 Q5r.eq_1 (.o (.o (.i .z (.g [0,3] [0] [] [] (.o (.d [0,1,2,3,4,5,6,7,8,9] [0] [] .z))))))
instance X5j:∀ (p0:Grow) (q0:Grow),Ct (Q07 p0 q0) fun res=>Q8 Tryz.prog 0o00327 [(.agg (Q5a p0)),.cptr (Q5a q0)] (fun d=>d=(eB res)):=
 au Tryz.func215 Q07.eq_1 .z
instance W39:∀ (p0:(List Int)) (p1:(List Int)),Ct (J3 p0 p1) fun res=>Q8 Tryz.prog 0o00226 [(.slice 1 (List.map rI p0)),(.slice 1 (List.map rI p1))] (fun d=>d=(eB res)):=
 au Tryz.func150 J3.eq_1 (.o (.o (.i .z (.ls 0 (.f [] [] [0,1,12,13] [] (fun (k56:Nat) (s52:Unit)=>[(13,eI (k56:Int))]) (fun k56 s52=>[]) (fun k56 s52=>.o (.g [0,1,5,12,13] [] [] [] (.o (.d [0,1,2,3,4,5,6,7,8] [] [] .z)))) (fun s60=>.z))))))
instance V4s:∀ (p0:Q0) (p1:Z1),Ct (Q8e p0 p1) fun res=>Q8 Tryz.prog 0o00513 [(.agg (Z2 p0)),(.agg (Q02 p1))] (fun d=>d=(eB res)):=
 au Tryz.func331 Q8e.eq_1 .z
end Go.Proofs.YtfhpjeogjcfkaaaGreat
