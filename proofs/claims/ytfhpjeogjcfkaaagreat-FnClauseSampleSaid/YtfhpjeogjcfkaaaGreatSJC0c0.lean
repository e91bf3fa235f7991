import Derived.Test.YtfhpjeogjcfkaaaGreatSJMir
import Derived.Test.YtfhpjeogjcfkaaaGreatSJAuto
set_option linter.unusedSimpArgs false
set_option linter.unusedVariables false
namespace Go.Proofs.YtfhpjeogjcfkaaaGreat
open Go Go.RowKit
set_option maxRecDepth 100000
set_option maxHeartbeats 20000000
instance V2p:∀ (p0:Q0) (p1:Bool) (p2:Bool) (p3:Bool) (p4:Int),Ct (Q3v p0 p1 p2 p3 p4) fun res=>Q6 Tryz.prog 0o00515 [(.agg (Q2 p0)),(eB p1),(eB p2),(eB p3),(eI p4)] (fun d=>d=(eB res)):=
 au Tryz.func333 Q3v.eq_1 .z
instance Z8x:∀ (p0:(List Q0)) (p1:(Q0→Option Bool)) {p1_f:FuncId} {p1_c:List D} [p1_i:CF1 (fun a0=>(.agg (Q2 a0))) (fun r=>(eB r)) p1 p1_f p1_c],Ct (J8 p0 p1) fun res=>Q6 Tryz.prog 0o00436 [(.slice 6 (List.map Q2 p0)),.clos p1_f p1_c] (fun d=>d=(eI res)):=
 au Tryz.func286 J8.eq_1 (.o (.o (.o (.o (.o (.ls 0 (.f [] [] [0,1,7,8] [] (fun (k54:Nat) (s50:Unit)=>[(8,eI (k54:Int))]) (fun k54 s50=>[]) (fun k54 s50=>.z) (fun s58=>.z))))))))
instance W8z:∀ (n:Nat) (p0:(List Int)),Ct (Q2k n p0) fun res=>Q6 Tryz.prog 0o00432 [(.slice 1 (List.map rI p0))] (fun d=>d=(.slice 6 (List.map Q2 res))):=
 au Tryz.func282 Q2k.eq_1 (.o (.o (.pN 3 6 0x0064 (.w [3] [24] [0,3,4] [24] (fun (s81:(List Q0)×Int)=>[(3,.sl 6 24 (s81.1).length),(4,eI s81.2)]) (fun s81=>[(24,some ⟨6,(List.map Q2 s81.1),0,0x0064⟩)]) (fun s81=>.i (.j 5 0 [0,3,4] [0] (fun (s96:(List Q0))=>[(3,.sl 6 0 (s96).length)]) (fun s96=>[(0,some ⟨6,(List.map Q2 s96),0,0x0064⟩)]) (.g [0,3,4] [0] [] [] (.o (.o (.d [0,1,2,3,4,5,6,7,8,9] [] [] (.i (.g [0,3,4] [0] [] [] (.o (.d [0,1,2,3,4,5,6,7,8,9,10,11,12,13] [] [] .z))) .z))))) (fun _=>.z)) .z) (fun s89=>.z)))))
instance X44:∀ (p1:Int),Ct (Q2b p1) fun res=>Q19 Tryz.prog 0o00514 [] [.nil,(eI p1)] (fun H d=>H=[some ⟨6,List.map Q2 res,0,0x0064⟩]∧d=.sl 6 0 res.length):=
 au Tryz.func332 Q2b.eq_1 (.o (.i .z (.j 3 0 [0] [9000] (fun (s6:Unit)=>[(0,.sl 6 9000 0)]) (fun _=>[(9000,some ⟨6,(List.map Q2 []),0,0x0064⟩)]) (.i (.o (.o (.pS 144 0 Q2 ([]:List Q0) .z))) (.pN 0 6 0x0064 .z)) (fun _=>.z))))
instance Z8w:∀ (p0:(List Q9)) (p1:(Q9→Option Bool)) {p1_f:FuncId} {p1_c:List D} [p1_i:CF1 (fun a0=>(.agg (V0 a0))) (fun r=>(eB r)) p1 p1_f p1_c],Ct (Q35 p0 p1) fun res=>Q6 Tryz.prog 0o00547 [(.slice 3 (List.map V0 p0)),.clos p1_f p1_c] (fun d=>d=(eI res)):=
 au Tryz.func359 Q35.eq_1 (.o (.o (.o (.o (.o (.ls 0 (.f [] [] [0,1,7,8] [] (fun (k54:Nat) (s50:Unit)=>[(8,eI (k54:Int))]) (fun k54 s50=>[]) (fun k54 s50=>.z) (fun s58=>.z))))))))
instance X26:∀ (p0:(List Q9)) (p1:Q9),Ct (Q31 p0 p1) fun res=>Q6 Tryz.prog 0o00476 [(.slice 3 (List.map V0 p0)),(.agg (V0 p1))] (fun d=>d=(eI res)):=
 au Tryz.func318 Q31.eq_1 (.o (.o (.ls 0 (.f [] [] [0,3,7,8] [0] (fun (k44:Nat) (s40:Unit)=>[(8,eI (k44:Int))]) (fun k44 s40=>[]) (fun k44 s40=>.o (.g [0,3,5,7,8] [0] [] [] (.d [0,1,2,3,4,5] [0] [] .z))) (fun s48=>.z)))))
instance X6q:∀ (p0:X3) (q0:Q34),Ct (Q4q p0 q0) fun res=>Q6 Tryz.prog 0o00277 [(.agg (Q11 p0)),.cptr (Q7f q0)] (fun d=>d=(eB res)):=
 au Tryz.func191 Q4q.eq_1 .z
instance Z2m:∀ (n:Nat) (p0:(List X3)) (p1:Int) (p2:Int) (p3:(X3→X3→Option Int)) {p3_f:FuncId} {p3_c:List D} [p3_i:CF2 (fun a0=>(.agg (Q11 a0))) (fun a1=>(.agg (Q11 a1))) (fun r=>(eI r)) p3 p3_f p3_c],Ct (Y4 n p0 p1 p2 p3) fun res=>Q19 Tryz.prog 0o00477 [⟨4,List.map Q11 p0,0,0x0057⟩] [.sl 4 0 p0.length,(eI p1),(eI p2),.clos p3_f p3_c] (fun H d=>H=[some ⟨4,List.map Q11 res,0,0x0057⟩]∧d=.tup []):=
 au Tryz.func319 Y4.eq_1 (.o (.o (.o (.o (.o (.o (.o (.o (.w [] [0] [0,1,2,3,8] [0] (fun (s464:(List X3)×Int)=>[(0,.sl 4 0 (s464.1).length),(8,eI s464.2)]) (fun s464=>[(0,some ⟨4,(List.map Q11 s464.1),0,0x0057⟩)]) (fun s464=>.i (.w [0,1,2,3,8] [0] [0,1,2,3,8,9] [0] (fun (s660:(List X3)×Int)=>[(0,.sl 4 0 (s660.1).length),(9,eI s660.2)]) (fun s660=>[(0,some ⟨4,(List.map Q11 s660.1),0,0x0057⟩)]) (fun s660=>.g [0,1,2,3,8,9] [0] [] [] (.i (.o (.o (.o (.d [0,1,2,3,4,5,6,7,8,9,10,11,12,13,14,15,16] [0] [] (.i (.g [0,1,2,3,8,9] [0] [] [] (.o (.o (.o (.d [0,1,2,3,4,5,6,7,8,9,10,11,12,13,14,15,16,17] [0] [51,52] .z))))) .z))))) (.d [0,1,2,3,4,5,6,7,8,9,10,11,12,13,14,15,16] [] [] .z))) (fun s668=>.z)) .z) (fun s472=>.z))))))))))
instance V0q:Ct (Q4d) fun res=>Q6 Tryz.prog 0o00253 [] (fun d=>d=(.agg (Q2 res))):=
 au Tryz.func171 Q4d.eq_1 .z
instance W8h:∀ (n:Nat) (p0:Q0),Ct (Q3e n p0) fun res=>Q6 Tryz.prog 0o00544 [(.agg (Q2 p0))] (fun d=>d=(.agg (Q2 res))):=
 ar (au Tryz.func356 Q3e.eq_2 (.o (.o (.b fun (p0:Q0)=>.pC 24 5 6 0x0064 (.lc 0 5 6 Q2 p0.kids (.f [2,3] [8,24,64] [1,2,3,4] [0,8,24,64] (fun (k56:Nat) (s52:(List Q0))=>[(4,eI (k56:Int))]) (fun k56 s52=>[(1000000024,some ⟨6,[[(eI p0.op),(eI p0.ctor),(eI p0.n),(eI p0.m),(eI p0.var),(.sl 6 64 (s52).length)]],0,0x0064⟩),(64,some ⟨6,(List.map Q2 s52),0,0x0064⟩)]) (fun k56 s52=>.o (.g [1,2,3,4] [0,1,2,3] [] [(1000000002,some ⟨6,[[(eI p0.op),(eI p0.ctor),(eI p0.n),(eI p0.m),(eI p0.var),(.sl 6 3 (s52).length)]],0,0x0064⟩)] (.o (.o (.d [0,1,2,3,4,5,6,7,8,9,10,11] [0,2] [24] .z))))) (fun s60=>.z)))))))
instance V2o:∀ (p0:(List Int)) (p1:Int),Ct (Q5a p0 p1) fun res=>Q6 Tryz.prog 0o00044 [(.slice 1 (List.map rI p0)),(eI p1)] (fun d=>d=(eB res)):=
 au Tryz.func36 Q5a.eq_1 (.o (.o (.ls 0 (.f [] [] [0,1,5] [] (fun (k44:Nat) (s40:Unit)=>[(5,eI (k44:Int))]) (fun k44 s40=>[]) (fun k44 s40=>.z) (fun s48=>.z)))))
instance W0c:∀ (p0:Z0) (p1:Int),Ct (Z4 p0 p1) fun res=>Q19 Tryz.prog 0o00165 [⟨2,[(Y7 p0)],0,0x00d7⟩] [.ptr 2 0 0 0,(eI p1)] (fun H d=>H=[some ⟨2,[(Y7 res.2)],0,0x00d7⟩]∧d=(eI res.1)):=
 au Tryz.func117 Z4.eq_1 (.o (.o (.i .z (.i .z (.i .z (.g [0,1,5] [0] [] [] (.o (.o (.o (.d [0,1,2,3,4,5,6,7,8,9,10,11,12,13,14,15,16,17,18,19,20,21,22,23,24,25,26,27,28,29,30,31,32,33,34,35,36,37,38,39,40,41,42,43,44,45] [0] [] .z))))))))))
instance W6k:Ct (Q51) fun res=>Q6 Tryz.prog 0o00464 [] (fun d=>d=(.slice 1 (List.map rS res))):=
 au Tryz.func308 Q51.eq_1 .z
end Go.Proofs.YtfhpjeogjcfkaaaGreat
