import Derived.Test.YtfhpjeogjcfkaaaGreatSJMir
import Derived.Test.YtfhpjeogjcfkaaaGreatSJAuto
set_option linter.unusedSimpArgs false
set_option linter.unusedVariables false
namespace Go.Proofs.YtfhpjeogjcfkaaaGreat
open Go Go.RowKit
set_option maxRecDepth 100000
set_option maxHeartbeats 20000000
instance W27:∀ (p0:(List Int)) (p1:Q1),Ct (Q05 p0 p1) fun res=>Q6 Tryz.prog 0o00323 [.cptr (List.map cI p0),(.agg (Z2 p1))] (fun d=>d=(eI res)):=
 au Tryz.func211 Q05.eq_1 (.o (.o (.i .z (.g [0,3] [0] [] [] (.o (.d [0,1,2,3,4,5,6,7,8,9] [0] [] .z))))))
instance W4w:∀ (p0:(List Q4)) (p1:Q1) (p2:Int),Ct (Y9 p0 p1 p2) fun res=>Q6 Tryz.prog 0o00204 [(.slice 2 (List.map Z8 p0)),(.agg (Z2 p1)),(eI p2)] (fun d=>d=(.slice 2 (List.map Z2 res))):=
 au Tryz.func132 Y9.eq_1 (.o (.o (.o (.o (.o (.j 3 0 [7,8] [88] (fun (s4:Int)=>[(8,eI s4)]) (fun _=>[]) .z (fun s4=>.pN 9 2 0x0019 (.ls 28 (.f [9] [41] [8,9,28,29,30] [41] (fun (k103:Nat) (s99:(List Q1))=>[(9,.sl 2 41 (s99).length),(30,eI (k103:Int))]) (fun k103 s99=>[(41,some ⟨2,(List.map Z2 s99),0,0x0019⟩)]) (fun k103 s99=>.b fun (x104:Q1)=>.j 9 0 [8,9,11,28,29,30] [0,25] (fun (s115:Int)=>[]) (fun s115=>[(25,some ⟨2,[[(eI x104.data),(eI s115)]],0,0x0019⟩)]) .z (fun _=>.z)) (fun s107=>.z))))))))))
instance W6u:∀ (p0:(List Q4)) (p1:Q1),Ct (Q0n p0 p1) fun res=>Q6 Tryz.prog 0o00262 [(.slice 2 (List.map Z8 p0)),(.agg (Z2 p1))] (fun d=>d=(.slice 1 (List.map rI res))):=
 au Tryz.func178 Q0n.eq_1 (.o (.o (.j 2 0 [5] [9000] (fun (s116:(List Int))=>[(5,.sl 1 9000 (s116).length)]) (fun s116=>[(9000,some ⟨1,(List.map rI s116),0,0x0003⟩)]) (.i (.o (.pN 5 1 0x0003 (.ls 16 (.f [5] [112] [3,5,16,17,18] [0,112] (fun (k198:Nat) (s194:(List Int))=>[(5,.sl 1 112 (s194).length),(18,eI (k198:Int))]) (fun k198 s194=>[(112,some ⟨1,(List.map rI s194),0,0x0003⟩)]) (fun k198 s194=>.o (.j 5 0 [3,5,16,17,18] [0,1] (fun (s217:(List Int))=>[(5,.sl 1 1 (s217).length)]) (fun s217=>[(1,some ⟨1,(List.map rI s217),0,0x0003⟩)]) .z (fun _=>.z))) (fun s202=>.z))))) (.pN 5 1 0x0003 .z)) (fun _=>.z))))
instance X8r:∀ (p0:(List Int)) (p1:Int),Ct (Q55 p0 p1) fun res=>Q6 Tryz.prog 0o00406 [(.slice 1 (List.map rI p0)),(eI p1)] (fun d=>d=(eI res)):=
 au Tryz.func262 Q55.eq_1 (.o (.o (.ls 0 (.f [] [] [0,1,7,8] [] (fun (k44:Nat) (s40:Unit)=>[(8,eI (k44:Int))]) (fun k44 s40=>[]) (fun k44 s40=>.z) (fun s48=>.z)))))
instance W0l:Ct (Q1e) fun res=>Q6 Tryz.prog 0o00176 [] (fun d=>d=(.agg (Q2 res))):=
 au Tryz.func126 Q1e.eq_1 .z
instance W4x:∀ (p0:Int),Ct (Q5g p0) fun res=>Q6 Tryz.prog 0o00274 [(eI p0)] (fun d=>d=(eB res)):=
 au Tryz.func188 Q5g.eq_1 .z
instance W8p:∀ (p0:Q7e) (p1:Int),Ct (Q9o p0 p1) fun res=>Q6 Tryz.prog 0o00410 [(.agg (Q6j p0)),(eI p1)] (fun d=>d=(eB res)):=
 au Tryz.func264 Q9o.eq_1 .z
instance X8q:∀ (n:Nat) (p0:Q0),Ct (V6 n p0) fun res=>Q6 Tryz.prog 0o00452 [(.agg (Q2 p0))] (fun d=>d=(.agg (Q2 res))):=
 ar (au Tryz.func298 V6.eq_2 (.o (.o (.b fun (p0:Q0)=>.j 1 0 [1,2] [0,8] (fun (s6:Unit)=>[]) (fun _=>[]) .z (fun s6=>.pC 10 5 6 0x0064 (.lc 0 5 6 Q2 p0.kids (.f [2,3] [1,10,50] [1,2,3,4] [0,1,10,50] (fun (k69:Nat) (s65:(List Q0))=>[(4,eI (k69:Int))]) (fun k69 s65=>[(1000000010,some ⟨6,[[(eI p0.op),(eI p0.ctor),(eI p0.n),(eI p0.m),(eI p0.var),(.sl 6 50 (s65).length)]],0,0x0064⟩),(50,some ⟨6,(List.map Q2 s65),0,0x0064⟩)]) (fun k69 s65=>.o (.g [1,2,3,4] [0,1,2,3] [] [(1000000002,some ⟨6,[[(eI p0.op),(eI p0.ctor),(eI p0.n),(eI p0.m),(eI p0.var),(.sl 6 3 (s65).length)]],0,0x0064⟩)] (.o (.o (.d [0,1,2,3,4,5,6,7,8,9,10,11] [0,2] [40] .z))))) (fun s73=>.z))))))))
instance W4g:∀ (p0:Q0) (p1:Q0),Ct (Q41 p0 p1) fun res=>Q6 Tryz.prog 0o00542 [(.agg (Q2 p0)),(.agg (Q2 p1))] (fun d=>d=(.slice 6 (List.map Q2 res))):=
 au Tryz.func354 Q41.eq_1 (.b fun (p0:Q0)=>.o (.j 3 0 [2,3,5,6] [0,8,24,80] (fun (s2:Int)=>[]) (fun s2=>[(80,some ⟨6,[[(eI 3),(eI 0),(eI p0.n),(eI s2),(eI 0),.nil]],0,0x0064⟩)]) .z (fun s2=>.j 5 0 [2,3,5] [0,1,2] (fun (s8:(List Q0))=>[(5,.sl 6 2 (s8).length)]) (fun s8=>[(2,some ⟨6,(List.map Q2 s8),0,0x0064⟩)]) .z (fun s8=>.j 8 0 [5,7] [2,43] (fun (s14:Int)=>[]) (fun s14=>[(43,some ⟨6,[[(eI 3),(eI 0),(eI s14),(eI p0.m),(eI 0),.nil]],0,0x0064⟩)]) .z (fun s14=>.j 10 0 [5] [0] (fun (s20:(List Q0))=>[(5,.sl 6 0 (s20).length)]) (fun s20=>[(0,some ⟨6,(List.map Q2 s20),0,0x0064⟩)]) .z (fun _=>.z))))))
instance W86:∀ (n:Nat) (p0:Q0) (p1:Q0),Ct (Q0o n p0 p1) fun res=>Q6 Tryz.prog 0o00551 [(.agg (Q2 p0)),(.agg (Q2 p1))] (fun d=>d=.tup [(.agg (Q2 res.1)),(eB res.2)]):=
 ar (au Tryz.func361 Q0o.eq_2 (.o (.o (.b fun (p0:Q0)=>.o (.i .z (.i .z (.i (.j 8 0 [3,4,6,7] [8,16] (fun (s19:Int)=>[(6,eI s19)]) (fun _=>[]) .z (fun s19=>.j 10 0 [4,6,7] [1] (fun (s24:Int)=>[(7,eI s24)]) (fun _=>[]) .z (fun _=>.z))) (.i .z (.pC 200 5 6 0x0064 (.lc 0 5 6 Q2 p0.kids (.f [4,8] [16,200,224] [2,3,4,8,9] [0,8,16,200,224] (fun (k114:Nat) (s110:(List Q0))=>[(9,eI (k114:Int))]) (fun k114 s110=>[(1000000200,some ⟨6,[[(eI 4),(eI p0.ctor),(eI 0),(eI 0),(eI 0),(.sl 6 224 (s110).length)]],0,0x0064⟩),(224,some ⟨6,(List.map Q2 s110),0,0x0064⟩)]) (fun k114 s110=>.o (.g [2,3,4,8,9] [0,1,2,3,4] [] [(1000000003,some ⟨6,[[(eI 4),(eI p0.ctor),(eI 0),(eI 0),(eI 0),(.sl 6 4 (s110).length)]],0,0x0064⟩)] (.o (.o (.dz [0,1,2,3,4,5,6,7,8,9,10,11,12,13,14,15,16] [0,1] [1048586] [] .z))))) (fun s118=>.z))))))))))))
instance W6h:∀ (n:Nat) (p0:Q3) (p1:Int),Ct (Q3s n p0 p1) fun res=>Q6 Tryz.prog 0o00154 [(.agg (Z5 p0)),(eI p1)] (fun d=>d=(eI res)):=
 ar (au Tryz.func108 Q3s.eq_2 (.o (.o (.b fun (p0:Q3)=>.o (.lc 0 2 3 Z5 p0.kids (.f [5] [] [1,2,5,6] [0] (fun (k80:Nat) (s76:Int)=>[(5,eI s76),(6,eI (k80:Int))]) (fun k80 s76=>[]) (fun k80 s76=>.z) (fun s84=>.z)))))))
instance X0b:∀ (p0:(List Q3)) (p1:(List Q3)) (p2:(Q3→Q3→Option Bool)) {p2_f:FuncId} {p2_c:List D} [p2_i:CF2 (fun a0=>(.agg (Z5 a0))) (fun a1=>(.agg (Z5 a1))) (fun r=>(eB r)) p2 p2_f p2_c],Ct (Q0g p0 p1 p2) fun res=>Q6 Tryz.prog 0o00124 [(.slice 3 (List.map Z5 p0)),(.slice 3 (List.map Z5 p1)),.clos p2_f p2_c] (fun d=>d=(eB res)):=
 au Tryz.func84 Q0g.eq_1 (.o (.o (.o (.o (.o (.o (.i .z (.ls 0 (.f [] [] [1,2,15,16,17] [] (fun (k66:Nat) (s62:Unit)=>[(17,eI (k66:Int))]) (fun k66 s62=>[]) (fun k66 s62=>.z) (fun s70=>.z))))))))))
instance W6p:∀ (p0:(List Int)),Ct (Q3t p0) fun res=>Q19 Tryz.prog 0o00116 [] [(.slice 1 (List.map (rK .u8) p0))] (fun H d=>H=[some ⟨2,[(Y7 res)],0,0x00d7⟩]∧d=.ptr 2 0 0 0):=
 au Tryz.func78 Q3t.eq_1 (.o (.j 1 0 [0] [] (fun (s3:(List Int))=>[(0,.slice 1 (List.map (rK .u8) s3))]) (fun _=>[]) .z (fun _=>.z)))
instance W8q:∀ (p0:(List ByteArray)) (p1:ByteArray),Ct (Q9p p0 p1) fun res=>Q6 Tryz.prog 0o00552 [(.slice 1 (List.map rS p0)),(eS p1)] (fun d=>d=(eI res)):=
 au Tryz.func362 Q9p.eq_1 (.o (.o (.i .z (.ls 0 (.f [] [] [0,1,5] [] (fun (k46:Nat) (s42:Unit)=>[(5,eI (k46:Int))]) (fun k46 s42=>[]) (fun k46 s42=>.z) (fun s50=>.z))))))
end Go.Proofs.YtfhpjeogjcfkaaaGreat
