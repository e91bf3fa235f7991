import Derived.Test.YtenmmbjgnlflnaaGreatBJMir
import Derived.Test.YtenmmbjgnlflnaaGreatBJAuto
set_option linter.unusedSimpArgs false
set_option linter.unusedVariables false
namespace Go.Proofs.YtenmmbjgnlflnaaGreat
open Go Go.RowKit
set_option maxRecDepth 100000
set_option maxHeartbeats 20000000
instance V1g:∀ (p0:(List Int)),Ct (Q3h p0) fun res=>Q12 Tryz.prog 0o00107 [] [(.slice 1 (List.map (rK .u8) p0))] (fun H d=>H=[some ⟨2,[(Q01 res)],0,0x00d7⟩]∧d=.ptr 2 0 0 0):=
 au Tryz.func71 Q3h.eq_1 (.o (.j 1 0 [0] [] (fun (s3:(List Int))=>[(0,.slice 1 (List.map (rK .u8) s3))]) (fun _=>[]) .z (fun _=>.z)))
instance Z1m:∀ (p0:X3) (p1:Int),Ct (Z3 p0 p1) fun res=>Q12 Tryz.prog 0o00111 [⟨2,[(Q01 p0)],0,0x00d7⟩] [.ptr 2 0 0 0,(eI p1)] (fun H d=>H=[some ⟨2,[(Q01 res.2)],0,0x00d7⟩]∧d=(eI res.1)):=
 au Tryz.func73 Z3.eq_1 (.o (.o (.i .z (.i .z (.i .z (.g [0,1,5] [0] [] [] (.o (.o (.o (.d [0,1,2,3,4,5,6,7,8,9,10,11,12,13,14,15,16,17,18,19,20,21,22,23,24,25,26,27,28,29,30,31,32,33,34,35,36,37,38,39,40,41,42,43,44,45] [0] [] .z))))))))))
instance V3m:∀ (p0:(List ByteArray)) (p1:ByteArray),Ct (Z29 p0 p1) fun res=>Q7 Tryz.prog 0o00460 [(.slice 1 (List.map rS p0)),(eS p1)] (fun d=>d=(eI res)):=
 au Tryz.func304 Z29.eq_1 (.o (.o (.i .z (.ls 0 (.f [] [] [0,1,5] [] (fun (k46:Nat) (s42:Unit)=>[(5,eI (k46:Int))]) (fun k46 s42=>[]) (fun k46 s42=>.z) (fun s50=>.z))))))
instance V1b:Ct (Q8x) fun res=>Q7 Tryz.prog 0o00221 [] (fun d=>d=(.slice 1 (List.map rS res))):=
 au Tryz.func145 Q8x.eq_1 .z
instance V65:∀ (p0:(List Int)) (p1:Int),Ct (Q3g p0 p1) fun res=>Q7 Tryz.prog 0o00142 [(.slice 1 (List.map rI p0)),(eI p1)] (fun d=>d=(eB res)):=
 au Tryz.func98 Q3g.eq_1 (.o (.o (.ls 0 (.f [] [] [0,1,5] [] (fun (k44:Nat) (s40:Unit)=>[(5,eI (k44:Int))]) (fun k44 s40=>[]) (fun k44 s40=>.z) (fun s48=>.z)))))
instance W44:∀ (p0:(List GFun)),Ct (Q71 p0) fun res=>Q12 Tryz.prog 0o00115 [⟨6,List.map Q0d p0,0,0x0035⟩] [.sl 6 0 p0.length] (fun H d=>H=[some ⟨6,List.map Q0d p0,0,0x0035⟩]∧d=(.slice 4 (List.map W8 res))):=
 au Tryz.func77 Q71.eq_1 (.o (.ll 0 (.f [3] [0,9] [0,3,4] [0,9] (fun (k46:Nat) (s42:(List Z0))=>[(3,.sl 4 9 (s42).length),(4,eI (k46:Int))]) (fun k46 s42=>[(9,some ⟨4,(List.map W8 s42),0,0x0032⟩)]) (fun k46 s42=>.z) (fun s50=>.pF 1 .z))))
instance X9x:∀ (p0:ByteArray),Ct (Q7s p0) fun res=>Q7 Tryz.prog 0o00464 [(eS p0)] (fun d=>d=(.agg (Q8q res))):=
 au Tryz.func308 Q7s.eq_1 (.o (.i .z (.g [0,2] [0] [] [] (.b fun (x3:Int)=>.b fun (x4:Int)=>.d [0,1,2,3,4,5,6,7,8,9,10] [] [] (.j 4 0 [2,3] [0,1] (fun (s8:Int)=>[]) (fun s8=>[(1,some ⟨3,[[(eI s8),(eI (wsub .i64 (wcv .i64 x3) 97)),(eI (wsub .i64 (wcv .i64 x4) 48))]],0,0x0046⟩)]) .z (fun _=>.z))))))
instance V3j:∀ (p0:Q2),Ct (Z27 p0) fun res=>Q7 Tryz.prog 0o00223 [(.agg (Z7 p0))] (fun d=>d=(eI res)):=
 au Tryz.func147 Z27.eq_1 .z
instance X2j:∀ (p0:(List Z6)) (p1:(Z6→Option Bool)) {p1_f:FuncId} {p1_c:List D} [p1_i:CF1 (fun a0=>(.agg (V6 a0))) (fun r=>(eB r)) p1 p1_f p1_c],Ct (Q4z p0 p1) fun res=>Q7 Tryz.prog 0o00345 [(.slice 9 (List.map V6 p0)),.clos p1_f p1_c] (fun d=>d=(eI res)):=
 au Tryz.func229 Q4z.eq_1 (.o (.o (.o (.o (.o (.ls 0 (.f [] [] [0,1,7,8] [] (fun (k54:Nat) (s50:Unit)=>[(8,eI (k54:Int))]) (fun k54 s50=>[]) (fun k54 s50=>.z) (fun s58=>.z))))))))
instance W99:∀ (p0:(List Q4)) (p1:Q2) (p2:Int),Ct (Q04 p0 p1 p2) fun res=>Q7 Tryz.prog 0o00216 [(.slice 2 (List.map Z8 p0)),(.agg (Z7 p1)),(eI p2)] (fun d=>d=(.slice 2 (List.map Z7 res))):=
 au Tryz.func142 Q04.eq_1 (.o (.o (.o (.o (.o (.j 3 0 [7,8] [88] (fun (s4:Int)=>[(8,eI s4)]) (fun _=>[]) .z (fun s4=>.pN 9 2 0x0023 (.ls 28 (.f [9] [41] [8,9,28,29,30] [41] (fun (k103:Nat) (s99:(List Q2))=>[(9,.sl 2 41 (s99).length),(30,eI (k103:Int))]) (fun k103 s99=>[(41,some ⟨2,(List.map Z7 s99),0,0x0023⟩)]) (fun k103 s99=>.b fun (x104:Q2)=>.j 9 0 [8,9,11,28,29,30] [0,25] (fun (s115:Int)=>[]) (fun s115=>[(25,some ⟨2,[[(eI x104.data),(eI s115)]],0,0x0023⟩)]) .z (fun _=>.z)) (fun s107=>.z))))))))))
instance V20:∀ (p0:(List Q4)) (p1:Q2),Ct (Q1s p0 p1) fun res=>Q7 Tryz.prog 0o00273 [(.slice 2 (List.map Z8 p0)),(.agg (Z7 p1))] (fun d=>d=(.slice 1 (List.map rI res))):=
 au Tryz.func187 Q1s.eq_1 (.o (.o (.j 2 0 [5] [9000] (fun (s116:(List Int))=>[(5,.sl 1 9000 (s116).length)]) (fun s116=>[(9000,some ⟨1,(List.map rI s116),0,0x0003⟩)]) (.i (.o (.pN 5 1 0x0003 (.ls 16 (.f [5] [112] [3,5,16,17,18] [0,112] (fun (k198:Nat) (s194:(List Int))=>[(5,.sl 1 112 (s194).length),(18,eI (k198:Int))]) (fun k198 s194=>[(112,some ⟨1,(List.map rI s194),0,0x0003⟩)]) (fun k198 s194=>.o (.j 5 0 [3,5,16,17,18] [0,1] (fun (s217:(List Int))=>[(5,.sl 1 1 (s217).length)]) (fun s217=>[(1,some ⟨1,(List.map rI s217),0,0x0003⟩)]) .z (fun _=>.z))) (fun s202=>.z))))) (.pN 5 1 0x0003 .z)) (fun _=>.z))))
instance V8b:∀ (p0:Q2) (p1:Q2),Ct (Q8t p0 p1) fun res=>Q7 Tryz.prog 0o00444 [(.agg (Z7 p0)),(.agg (Z7 p1))] (fun d=>d=(eB res)):=
 au Tryz.func292 Q8t.eq_1 .z
instance W47:∀ (p0:Q4u) (p1:(List X1)),Ct (Q2j p0 p1) fun res=>Q7 Tryz.prog 0o00412 [(.agg (Q8q p0)),(.slice 4 (List.map Q02 p1))] (fun d=>d=(eB res)):=
 au Tryz.func266 Q2j.eq_1 (.o (.o (.i .z (.ls 1 (.f [] [] [1,2,5] [0] (fun (k179:Nat) (s175:Unit)=>[(5,eI (k179:Int))]) (fun k179 s175=>[]) (fun k179 s175=>.o (.j 6 0 [1,2,5] [0] (fun (s196:Unit)=>[]) (fun _=>[]) (.g [1,2,5] [0] [] [] (.d [0,1,2,3,4,5,6,7] [0] [] .z)) (fun _=>.z))) (fun s183=>.z))))))
instance V84:∀ (p0:Q1) (p1:(List Int)),Ct (Z25 p0 p1) fun res=>Q7 Tryz.prog 0o00067 [(.agg (X0 p0)),(.slice 1 (List.map rI p1))] (fun d=>d=(.agg (X0 res))):=
 au Tryz.func55 Z25.eq_1 (.o (.o (.ls 1 (.f [2,4] [0,8] [1,2,4,5] [0,8] (fun (k46:Nat) (s42:Q1)=>[(5,eI (k46:Int))]) (fun k46 s42=>[(0,some ⟨3,[(X0 s42)],0,0x001b⟩)]) (fun k46 s42=>.o (.g [1,2,4,5] [0,1] [] [] (.o (.d [0,1,2,3,4,5,6,7,8] [0] [2] .z)))) (fun s50=>.z)))))
end Go.Proofs.YtenmmbjgnlflnaaGreat
