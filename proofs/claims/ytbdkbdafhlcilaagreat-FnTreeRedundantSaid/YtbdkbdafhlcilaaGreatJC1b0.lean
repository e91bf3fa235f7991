import Derived.Test.YtbdkbdafhlcilaaGreatJC0d0
import Derived.Test.YtbdkbdafhlcilaaGreatJC0a0
import Derived.Test.YtbdkbdafhlcilaaGreatJC0c0
import Derived.Test.YtbdkbdafhlcilaaGreatJC0b0
set_option linter.unusedSimpArgs false
set_option linter.unusedVariables false
namespace Go.Proofs.YtbdkbdafhlcilaaGreat
open Go Go.RowKit
set_option maxRecDepth 100000
set_option maxHeartbeats 20000000
instance X6z:∀ (p0:(List Int)) (p1:Int),Ct (V3 p0 p1) fun res=>Z1 Tryz.prog 0o00133 [(.slice 1 (List.map rI p0)),(eI p1)] (fun d=>d=(eB res)):=
 au Tryz.func91 V3.eq_1 .z
instance Z8a:∀ (p0:(List Q0)) (p1:(Q0→Option Bool)) {p1_f:FuncId} {p1_c:List D} [p1_i:CF1 (fun a0=>(.agg (Q1 a0))) (fun r=>(eB r)) p1 p1_f p1_c],Ct (Q1n p0 p1) fun res=>Z1 Tryz.prog 0o00307 [(.slice 6 (List.map Q1 p0)),.clos p1_f p1_c] (fun d=>d=(eB res)):=
 au Tryz.func199 Q1n.eq_1 .z
instance V4v:∀ (p0:(List Q3)) (p1:Q2),Ct (Z2n p0 p1) fun res=>Z1 Tryz.prog 0o00411 [(.slice 2 (List.map V0 p0)),(.agg (X9 p1))] (fun d=>d=(eB res)):=
 au Tryz.func265 Z2n.eq_1 .z
instance W5k:∀ (n:Nat) (p0:ByteArray),Ct (Q8j n p0) fun res=>Z1 Tryz.prog 0o00407 [(eS p0)] (fun d=>d=(eB res)):=
 au Tryz.func263 Q8j.eq_1 (.o (.o (.o (.i .z (.o (.i .z (.i .z (.w [] [] [0,3] [] (fun (s132:Int)=>[(3,eI s132)]) (fun s132=>[]) (fun s132=>.z) (fun s140=>.z)))))))))
instance X43:∀ (p0:(List (List Q0))),Ct (Q0g p0) fun res=>Z1 Tryz.prog 0o00370 [(.slice 1 (List.map (rL 6 Q1) p0))] (fun d=>d=(.slice 6 (List.map Q1 res))):=
 au Tryz.func248 Q0g.eq_1 (.o (.ls 0 (.f [0,3] [] [0,3,9,10,11] [] (fun (k46:Nat) (s42:Int)=>[(3,eI s42),(11,eI (k46:Int))]) (fun k46 s42=>[]) (fun k46 s42=>.z) (fun s50=>.o (.ls 0 (.f [6] [9] [6,25,26,27] [9] (fun (k99:Nat) (s95:(List Q0))=>[(6,.sl 6 9 (s95).length),(27,eI (k99:Int))]) (fun k99 s95=>[(9,some ⟨6,(List.map Q1 s95),0,0x0064⟩)]) (fun k99 s95=>.z) (fun s103=>.z)))))))
instance V2o:∀ (p0:(List Q3)) (p1:Q2) (p2:Int),Ct (Q0u p0 p1 p2) fun res=>Z1 Tryz.prog 0o00151 [(.slice 2 (List.map V0 p0)),(.agg (X9 p1)),(eI p2)] (fun d=>d=(.slice 2 (List.map X9 res))):=
 au Tryz.func105 Q0u.eq_1 (.o (.o (.o (.o (.b fun (x2:Q8f)=>.lc 104 1 2 X9 x2.args (.f [7] [16] [4,7,8,9] [0,16,104] (fun (k118:Nat) (s114:(List Q2))=>[(7,.sl 2 16 (s114).length),(9,eI (k118:Int))]) (fun k118 s114=>[(16,some ⟨2,(List.map X9 s114),0,0x0019⟩)]) (fun k118 s114=>.b fun (x119:Q2)=>.j 7 0 [4,7,8,9,10] [0,1,2,83] (fun (s133:Int)=>[]) (fun s133=>[(83,some ⟨2,[[(eI x119.data),(eI s133)]],0,0x0019⟩)]) .z (fun _=>.z)) (fun s122=>.z)))))))
instance V04:∀ (p0:(List Z0)) (p1:(List Z0)),Ct (Q5d p0 p1) fun res=>Z1 Tryz.prog 0o00402 [(.slice 3 (List.map Y4 p0)),(.slice 3 (List.map Y4 p1))] (fun d=>d=(eB res)):=
 au Tryz.func258 Q5d.eq_1 (.o (.o (.ls 0 (.f [0,1] [] [0,1,5] [] (fun (k124:Nat) (s120:Unit)=>[(5,eI (k124:Int))]) (fun k124 s120=>[]) (fun k124 s120=>.o (.o (.g [0,1,5,6] [] [] [] (.i (.d [0,1,2,3,4,5,6,7,8,9,10,11,12,13,14] [] [] .z) (.o (.d [0,1,2,3,4,5,6,7,8,9,10,11,12,13,14] [] [] .z)))))) (fun s128=>.z)))))
instance W5i:∀ (n:Nat) (p0:Q4) (p1:Q4),Ct (Q3u n p0 p1) fun res=>Z1 Tryz.prog 0o00143 [(.agg (Q07 p0)),(.agg (Q07 p1))] (fun d=>d=(eB res)):=
 ar (au Tryz.func99 Q3u.eq_2 .z)
instance V0a:∀ (n:Nat) (p0:Int),Ct (Z06 n p0) fun res=>Z1 Tryz.prog 0o00476 [(eI p0)] (fun d=>d=(eS res)):=
 au Tryz.func318 Z06.eq_1 .z
instance V2a:∀ (n:Nat) (p0:Z4) (p1:Q0) (p2:Int),Ct (Q32 n p0 p1 p2) fun res=>Q05 Tryz.prog 0o00231 [⟨2,[(J2 p0)],0,0x009a⟩] [.ptr 2 0 0 0,(.agg (Q1 p1)),(eI p2)] (fun H d=>H=[some ⟨2,[(J2 res.2.2)],0,0x009a⟩]∧d=.tup [(.agg (Q1 res.1)),(eI res.2.1)]):=
 ar (au Tryz.func153 Q32.eq_2 (.o (.o (.o (.b fun (p1:Q0)=>.o (.i .z (.i .z (.i .z (.j 3 0 [0,2,4,6] [0,1,9] (fun (s25:Z4)=>[]) (fun s25=>[(0,some ⟨2,[(J2 s25)],0,0x009a⟩)]) .z (fun s25=>.pC 11 5 6 0x0064 (.lc 1 5 6 Q1 p1.kids (.f [0,6,8,9] [0,2,11,67] [0,4,6,8,9,10] [0,1,2,11,67] (fun (k95:Nat) (s91:Z4×(List Q0)×Int)=>[(9,eI s91.2.2),(10,eI (k95:Int))]) (fun k95 s91=>[(0,some ⟨2,[(J2 s91.1)],0,0x009a⟩),(1000000011,some ⟨6,[[(eI p1.op),(eI p1.ctor),(eI p1.n),(eI p1.m),(eI p1.var),(.sl 6 67 (s91.2.1).length)]],0,0x0064⟩),(67,some ⟨6,(List.map Q1 s91.2.1),0,0x0064⟩)]) (fun k95 s91=>.z) (fun s99=>.j 14 0 [6,8,9] [0,1,2,3] (fun (s112:Z4)=>[]) (fun s112=>[(0,some ⟨2,[(J2 s112)],0,0x009a⟩),(1000000002,some ⟨6,[[(eI p1.op),(eI p1.ctor),(eI p1.n),(eI p1.m),(eI p1.var),(.sl 6 3 (s99.2.1).length)]],0,0x0064⟩)]) (.i (.o (.i (.pF 3 (.pF 76 .z)) .z)) .z) (fun _=>.pF 3 .z))))))))))))))
instance W45:∀ (p0:Q4g) (p1:(List Y3)),Ct (Q3b p0 p1) fun res=>Z1 Tryz.prog 0o00156 [(.agg (Q94 p0)),(.slice 4 (List.map Q87 p1))] (fun d=>d=(eB res)):=
 au Tryz.func110 Q3b.eq_1 .z
end Go.Proofs.YtbdkbdafhlcilaaGreat
