import Derived.Test.YtbdkbdafhlcilaaGreatJC0b0
import Derived.Test.YtbdkbdafhlcilaaGreatJC0a0
import Derived.Test.YtbdkbdafhlcilaaGreatJC0c0
import Derived.Test.YtbdkbdafhlcilaaGreatJC0d0
set_option linter.unusedSimpArgs false
set_option linter.unusedVariables false
namespace Go.Proofs.YtbdkbdafhlcilaaGreat
open Go Go.RowKit
set_option maxRecDepth 100000
set_option maxHeartbeats 20000000
instance Z89:∀ (p0:(List Z0)) (p1:(Z0→Option Bool)) {p1_f:FuncId} {p1_c:List D} [p1_i:CF1 (fun a0=>(.agg (Y4 a0))) (fun r=>(eB r)) p1 p1_f p1_c],Ct (Q1m p0 p1) fun res=>Z1 Tryz.prog 0o00454 [(.slice 3 (List.map Y4 p0)),.clos p1_f p1_c] (fun d=>d=(eB res)):=
 au Tryz.func300 Q1m.eq_1 .z
instance X1o:∀ (p0:(List Z0)) (p1:Z0),Ct (Q0o p0 p1) fun res=>Z1 Tryz.prog 0o00352 [(.slice 3 (List.map Y4 p0)),(.agg (Y4 p1))] (fun d=>d=(eB res)):=
 au Tryz.func234 Q0o.eq_1 .z
instance Z8m:∀ (p0:(List Q5)) (p1:(Q5→Option Bool)) {p1_f:FuncId} {p1_c:List D} [p1_i:CF1 (fun a0=>(.agg (W0 a0))) (fun r=>(eB r)) p1 p1_f p1_c],Ct (Q1t p0 p1) fun res=>Z1 Tryz.prog 0o00121 [(.slice 9 (List.map W0 p0)),.clos p1_f p1_c] (fun d=>d=(eB res)):=
 au Tryz.func81 Q1t.eq_1 .z
instance X8b:∀ (p0:(List Int)) (p1:(List Q3)) (p2:Q2) (p3:Int),Ct (Q1e p0 p1 p2 p3) fun res=>Z1 Tryz.prog 0o00313 [.cptr (List.map cI p0),(.slice 2 (List.map V0 p1)),(.agg (X9 p2)),(eI p3)] (fun d=>d=(eI res)):=
 au Tryz.func203 Q1e.eq_1 (.o (.o (.o (.o (.o (.ls 16 (.f [9] [] [0,9,16,17,18] [] (fun (k68:Nat) (s64:Int)=>[(9,eI s64),(18,eI (k68:Int))]) (fun k68 s64=>[]) (fun k68 s64=>.z) (fun s72=>.z))))))))
instance V01:∀ (n:Nat) (p0:Q0),Ct (Q09 n p0) fun res=>Q05 Tryz.prog 0o00211 [] [(.agg (Q1 p0))] (fun H d=>H=[some ⟨6,List.map Q1 res,0,0x0064⟩]∧d=.sl 6 0 res.length):=
 ar (au Tryz.func137 Q09.eq_2 (.o (.o (.b fun (p0:Q0)=>.i (.g [1] [0] [] [] (.o (.o (.o (.o (.b fun (x16:(List Q0))=>.d [0,1,2,3,5,6,7,8,4,9,10,11] [0] [] (.i (.gr 4 [3] [17] [(3,.sl 6 17 (x16).length)] [(17,some ⟨6,(List.map Q1 x16),0,0x0064⟩)] (.b fun (x20:(List Q0))=>.pS 0 401 Q1 x20 .z)) .z))))))) (.lc 0 5 6 Q1 p0.kids (.f [1,4] [0,40] [1,4,5] [0,40] (fun (k76:Nat) (s72:(List (List Q0)))=>[(4,.sl 1 40 (s72).length),(5,eI (k76:Int))]) (fun k76 s72=>[(40,some ⟨1,(List.map (rL 6 Q1) s72),0,0x005b⟩)]) (fun k76 s72=>.o (.o (.o (.pF 91 .z)))) (fun s80=>.o (.ls 48 (.f [7] [26] [1,6,7,8] [0,26] (fun (k131:Nat) (s127:(List Q0))=>[(7,.sl 6 26 (s127).length),(8,eI (k131:Int))]) (fun k131 s127=>[(26,some ⟨6,(List.map Q1 s127),0,0x0064⟩)]) (fun k131 s127=>.z) (fun s135=>.z))))))))))
instance V0c:∀ (p0:(List Q3)) (p1:Q2),Ct (Q0m p0 p1) fun res=>Z1 Tryz.prog 0o00146 [(.slice 2 (List.map V0 p0)),(.agg (X9 p1))] (fun d=>d=(.slice 1 (List.map rI res))):=
 au Tryz.func102 Q0m.eq_1 (.o (.o (.i .z (.b fun (x115:Q3)=>.le 0 1 3 Q7e x115.ctors x115 (.f [5] [16] [0,3,5,6] [0,16] (fun (k149:Nat) (s145:(List Int))=>[(5,.sl 1 16 (s145).length),(6,eI (k149:Int))]) (fun k149 s145=>[(16,some ⟨1,(List.map rI s145),0,0x0003⟩)]) (fun k149 s145=>.o (.j 7 0 [0,3,5,6] [0,1] (fun (s157:(List Int))=>[(5,.sl 1 1 (s157).length)]) (fun s157=>[(1,some ⟨1,(List.map rI s157),0,0x0003⟩)]) (.g [0,3,5,6] [0,1] [] [] (.o (.d [0,1,2,3,4,5,6,7,8,9,10,11] [0] [] .z))) (fun _=>.z))) (fun s153=>.z))))))
instance V0b:∀ (p0:(List Int)) (p1:Q2),Ct (Q2k p0 p1) fun res=>Z1 Tryz.prog 0o00150 [(.slice 1 (List.map rI p0)),(.agg (X9 p1))] (fun d=>d=(eI res)):=
 au Tryz.func104 Q2k.eq_1 .z
instance V4m:∀ (n:Nat) (p0:(List Q0)),Ct (Q4s n p0) fun res=>Z1 Tryz.prog 0o00451 [(.slice 6 (List.map Q1 p0))] (fun d=>d=(.slice 6 (List.map Q1 res))):=
 au Tryz.func297 Q4s.eq_1 (.o (.o (.ls 0 (.f [3] [8] [0,3,4] [8] (fun (k56:Nat) (s52:(List Q0))=>[(3,.sl 6 8 (s52).length),(4,eI (k56:Int))]) (fun k56 s52=>[(8,some ⟨6,(List.map Q1 s52),0,0x0064⟩)]) (fun k56 s52=>.z) (fun s60=>.z)))))
instance W5b:∀ (n:Nat) (p0:ByteArray),Ct (Q8i n p0) fun res=>Z1 Tryz.prog 0o00432 [(eS p0)] (fun d=>d=(eB res)):=
 au Tryz.func282 Q8i.eq_1 (.o (.o (.i .z (.i .z (.o (.o (.i .z (.w [] [] [0,3] [] (fun (s132:Int)=>[(3,eI s132)]) (fun s132=>[]) (fun s132=>.z) (fun s140=>.z)))))))))
instance W5e:∀ (n:Nat) (p0:Grow) (p1:Q0) (p2:(List Int)),Ct (Q2x n p0 p1 p2) fun res=>Q05 Tryz.prog 0o00074 [] [(.agg (Q4w p0)),(.agg (Q1 p1)),(.slice 1 (List.map rI p2))] (fun H d=>H=[some ⟨6,List.map Q1 res.pats,0,0x0064⟩]∧d=.agg [(eI res.clause),.sl 6 0 res.pats.length,(.slice 2 (List.map Z8 res.binds))]):=
 au Tryz.func60 Q2x.eq_1 (.o (.b fun (p0:Grow)=>.o (.o (.w [3,4,6] [0,8,16] [2,3,4,6] [0,8,16] (fun (s42:(List Q7)×Q0)=>[]) (fun s42=>[(0,some ⟨3,[[(eI p0.clause),(.slice 6 (List.map Q1 p0.pats)),(.slice 2 (List.map Z8 s42.1))]],0,0x0066⟩),(8,some ⟨6,[(Q1 s42.2)],0,0x0064⟩)]) (fun s42=>.j 1 0 [2,3,4,6] [0,1,2] (fun (s56:Unit)=>[]) (fun _=>[]) .z (fun s56=>.g [2,3,4,6] [0,1,2] [] [] (.o (.o (.o (.d [0,1,3,4,5,2,6,7,8,9,10,11] [0,1] [25] (.i (.o (.pF 12 (.pF 27 .z))) (.o (.pF 12 (.pF 27 .z)))))))))) (fun s50=>.g [3,4,6] [0,1,2] [] [] (.o (.o (.dz [0,1,3,2,4,5,6,7] [0,1] [1048614] [40] .z))))))))
instance X53:∀ (p0:(List (List Z5))),Ct (Q2d p0) fun res=>Z1 Tryz.prog 0o00207 [(.slice 1 (List.map (rL 3 Q1y) p0))] (fun d=>d=(.slice 3 (List.map Q1y res))):=
 au Tryz.func135 Q2d.eq_1 (.o (.ls 0 (.f [0,3] [] [0,3,9,10,11] [] (fun (k46:Nat) (s42:Int)=>[(3,eI s42),(11,eI (k46:Int))]) (fun k46 s42=>[]) (fun k46 s42=>.z) (fun s50=>.o (.ls 0 (.f [6] [9] [6,25,26,27] [9] (fun (k99:Nat) (s95:(List Z5))=>[(6,.sl 3 9 (s95).length),(27,eI (k99:Int))]) (fun k99 s95=>[(9,some ⟨3,(List.map Q1y s95),0,0x006f⟩)]) (fun k99 s95=>.z) (fun s103=>.z)))))))
instance X42:∀ (n:Nat) (p0:(List Grow)) (p1:(Grow→Option Bool)) {p1_f:FuncId} {p1_c:List D} [p1_i:CF1 (fun a0=>(.agg (Q4w a0))) (fun r=>(eB r)) p1 p1_f p1_c],Ct (Q15 n p0 p1) fun res=>Q05 Tryz.prog 0o00316 [⟨3,List.map Q4w p0,0,0x0066⟩] [.sl 3 0 p0.length,.clos p1_f p1_c] (fun H d=>H=[none,some ⟨3,List.map Q4w res,0,0x0066⟩]∧d=.sl 3 1 res.length):=
 au Tryz.func206 Q15.eq_1 (.o (.o (.o (.o (.o (.o (.o (.i (.pM 4 .z) (.w [0,5] [0] [0,1,5,6] [0] (fun (s96:(List Grow)×Int×Int)=>[(0,.sl 3 0 (s96.1).length),(5,eI s96.2.1),(6,eI s96.2.2)]) (fun s96=>[(0,some ⟨3,(List.map Q4w s96.1),0,0x0066⟩)]) (fun s96=>.i (.j 7 0 [0,1,5,6] [0] (fun (s112:(List Grow)×Int)=>[(0,.sl 3 0 (s112.1).length),(5,eI s112.2)]) (fun s112=>[(0,some ⟨3,(List.map Q4w s112.1),0,0x0066⟩)]) .z (fun _=>.z)) .z) (fun s104=>.o (.pM 4 .z)))))))))))
end Go.Proofs.YtbdkbdafhlcilaaGreat
