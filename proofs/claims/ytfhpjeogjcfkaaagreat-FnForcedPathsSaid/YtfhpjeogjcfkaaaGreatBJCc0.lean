import Derived.Test.YtfhpjeogjcfkaaaGreatBJMc0
import Derived.Test.YtfhpjeogjcfkaaaGreatBJC6c0
import Derived.Test.YtfhpjeogjcfkaaaGreatBJC6a0
import Derived.Test.YtfhpjeogjcfkaaaGreatBJC6b0
set_option linter.unusedSimpArgs false
set_option linter.unusedVariables false
namespace Go.Proofs.YtfhpjeogjcfkaaaGreat
open Go Go.RowKit
set_option maxRecDepth 100000
set_option maxHeartbeats 20000000
instance X2u:∀ (p0:(List Z1)) (p1:(Z1→Option Bool)) {p1_f:FuncId} {p1_c:List D} [p1_i:CF1 (fun a0=>(.agg (Q02 a0))) (fun r=>(eB r)) p1 p1_f p1_c],Ct (Q0b p0 p1) fun res=>Q8 Tryz.prog 0o00217 [(.slice 9 (List.map Q02 p0)),.clos p1_f p1_c] (fun d=>d=(eI res)):=
 au Tryz.func143 Q0b.eq_1 (.o (.o (.o (.o (.o (.ls 0 (.f [] [] [0,1,7,8] [] (fun (k54:Nat) (s50:Unit)=>[(8,eI (k54:Int))]) (fun k54 s50=>[]) (fun k54 s50=>.z) (fun s58=>.z))))))))
instance W73:∀ (p0:Z1) (q0:Q2),Ct (Q25 p0 q0) fun res=>Q8 Tryz.prog 0o00220 [(.agg (Q02 p0)),.cptr (X4 q0)] (fun d=>d=(eB res)):=
 au Tryz.func144 Q25.eq_1 .z
instance V2x:∀ (n:Nat) (p0:X0) (p1:(List Q3)) (p2:Q2),Ct (Q7e n p0 p1 p2) fun res=>Q8 Tryz.prog 0o00104 [(.agg (Q0t p0)),(.slice 9 (List.map X9 p1)),(.agg (X4 p2))] (fun d=>d=.tup [(eI res.1),(.slice 4 (List.map Q15 res.2.1)),(eI res.2.2)]):=
 au Tryz.func68 Q7e.eq_1 (.o (.o (.o (.o (.w [] [] [1,3,5,9] [0,8] (fun (s34:X0×Int)=>[(9,eI s34.2)]) (fun s34=>[(0,some ⟨6,[(Q0t s34.1)],0,0x0030⟩)]) (fun s34=>.z) (fun s42=>.z))))))
instance V36:∀ (n:Nat) (p0:(List Q4)) (p1:Q7) (p2:(List Q3)) (p3:Int) (p4:Q2),Ct (Q9i n p0 p1 p2 p3 p4) fun res=>Q8 Tryz.prog 0o00030 [(.slice 2 (List.map W5 p0)),(.agg (W3 p1)),(.slice 9 (List.map X9 p2)),(eI p3),(.agg (X4 p4))] (fun d=>d=.tup [(eI res.1),(.slice 4 (List.map Q15 res.2.1)),(eI res.2.2)]):=
 au Tryz.func24 Q9i.eq_1 .z
instance W37:∀ (n:Nat) (p0:(List Int)),Ct (Q49 n p0) fun res=>Q8 Tryz.prog 0o00102 [(.slice 1 (List.map (rK .u8) p0))] (fun d=>d=.tup [(.slice 2 (List.map W5 res.1)),(.agg (W3 res.2.1)),(.slice 9 (List.map X9 res.2.2.1)),(eI res.2.2.2.1),(.agg (X4 res.2.2.2.2))]):=
 au Tryz.func66 Q49.eq_1 (.o (.o (.o (.o (.g [3,6,7,8,9,10,11] [8,32,49,120,73,128] [] [] (.o (.o (.o (.dz [0,1,2,3,5,8,9,4,6,7,10,11,12,13,14,15] [3,5] [1048603] [] .z)))))))))
instance X6j:∀ (n:Nat) (p0:(List Int)),Ct (Q3r n p0) fun res=>Q8 Tryz.prog 0o00031 [(.slice 1 (List.map (rK .u8) p0))] (fun d=>d=.tup [(.slice 2 (List.map W5 res.1)),(.agg (W3 res.2.1)),(.slice 9 (List.map X9 res.2.2.1)),(eI res.2.2.2.1),(.agg (X4 res.2.2.2.2))]):=
 au Tryz.func25 Q3r.eq_1 .z
instance X6n:∀ (p0:(List (List Int))) (p1:((List Int)→Option Bool)) {p1_f:FuncId} {p1_c:List D} [p1_i:CF1 (fun a0=>(.slice 1 (List.map rI a0))) (fun r=>(eB r)) p1 p1_f p1_c],Ct (Q3t p0 p1) fun res=>Q8 Tryz.prog 0o00336 [(.slice 1 (List.map (rL 1 rI) p0)),.clos p1_f p1_c] (fun d=>d=(eI res)):=
 au Tryz.func222 Q3t.eq_1 (.o (.o (.o (.o (.o (.ls 0 (.f [] [] [0,1,7,8] [] (fun (k54:Nat) (s50:Unit)=>[(8,eI (k54:Int))]) (fun k54 s50=>[]) (fun k54 s50=>.z) (fun s58=>.z))))))))
instance X2w:∀ (p0:(List (List Int))) (p1:((List Int)→Option Bool)) {p1_f:FuncId} {p1_c:List D} [p1_i:CF1 (fun a0=>(.slice 1 (List.map rI a0))) (fun r=>(eB r)) p1 p1_f p1_c],Ct (Q0c p0 p1) fun res=>Q8 Tryz.prog 0o00224 [(.slice 1 (List.map (rL 1 rI) p0)),.clos p1_f p1_c] (fun d=>d=(eB res)):=
 au Tryz.func148 Q0c.eq_1 .z
instance W7a:∀ (p0:(List Int)) (q0:(List Int)),Ct (Q7o p0 q0) fun res=>Q8 Tryz.prog 0o00225 [(.slice 1 (List.map rI p0)),.cptr [(.slice 1 (List.map rI q0))]] (fun d=>d=(eB res)):=
 au Tryz.func149 Q7o.eq_1 .z
instance V35:∀ (p0:(List (List Int))) (p1:(List Int)),Ct (Q9h p0 p1) fun res=>Y4 Tryz.prog 0o00107 [⟨1,List.map (rL 1 rI) p0,0,0x002c⟩] [.sl 1 0 p0.length,(.slice 1 (List.map rI p1))] (fun H d=>H=[none,some ⟨1,List.map (rL 1 rI) res,0,0x002c⟩]∧d=.sl 1 1 res.length):=
 au Tryz.func71 Q9h.eq_1 (.o (.o (.o (.i (.pM 4 .z) (.o (.o (.pF 58 .z)))))))
instance X9s:∀ (p0:(List Int)) (q0:(List (List Int))),Ct (Q24 p0 q0) fun res=>Y4 Tryz.prog 0o00106 [⟨1,[[.sl 1 1 q0.length]],0,0x0039⟩,⟨1,List.map (rL 1 rI) q0,0,0x002c⟩] [(.slice 1 (List.map rI p0)),.ptr 1 0 0 0] (fun H d=>H=[some ⟨1,[[.sl 1 2 res.length]],0,0x0039⟩,none,some ⟨1,List.map (rL 1 rI) res,0,0x002c⟩]∧d=.tup []):=
 au Tryz.func70 Q24.eq_1 .z
instance V7t:∀ (p0:Q2) (p1:(List Int)),Ct (Q59 p0 p1) fun res=>Q8 Tryz.prog 0o00221 [(.agg (X4 p0)),(.slice 1 (List.map rI p1))] (fun d=>d=.tup [(.agg (X4 res.1)),(eB res.2)]):=
 au Tryz.func145 Q59.eq_1 (.o (.o (.ls 1 (.f [2,4] [0,8] [2,4,8,9,10] [0,8] (fun (k66:Nat) (s62:Q2)=>[(10,eI (k66:Int))]) (fun k66 s62=>[(0,some ⟨3,[(X4 s62)],0,0x001d⟩)]) (fun k66 s62=>.z) (fun s70=>.g [2,4] [0,1] [] [] (.d [0,1,2,3,4,5] [0] [] .z))))))
instance W75:∀ (p0:Z1) (q0:Q2),Ct (Q41 p0 q0) fun res=>Q8 Tryz.prog 0o00222 [(.agg (Q02 p0)),.cptr (X4 q0)] (fun d=>d=(eB res)):=
 au Tryz.func146 Q41.eq_1 .z
instance X13:∀ (p0:(List Q1)) (p1:(Q1→Option Bool)) {p1_f:FuncId} {p1_c:List D} [p1_i:CF1 (fun a0=>(.agg (Q6 a0))) (fun r=>(eB r)) p1 p1_f p1_c],Ct (Q11 p0 p1) fun res=>Q8 Tryz.prog 0o00334 [(.slice 2 (List.map Q6 p0)),.clos p1_f p1_c] (fun d=>d=(eI res)):=
 au Tryz.func220 Q11.eq_1 (.o (.o (.o (.o (.o (.ls 0 (.f [] [] [0,1,7,8] [] (fun (k54:Nat) (s50:Unit)=>[(8,eI (k54:Int))]) (fun k54 s50=>[]) (fun k54 s50=>.z) (fun s58=>.z))))))))
instance V0f:∀ (p0:Q1) (q0:Int),Ct (Q6n p0 q0) fun res=>Q8 Tryz.prog 0o00335 [(.agg (Q6 p0)),.cptr [(eI q0)]] (fun d=>d=(eB res)):=
 au Tryz.func221 Q6n.eq_1 .z
instance V5m:∀ (p0:(List Q1)) (p1:Int),Ct (Q72 p0 p1) fun res=>Q8 Tryz.prog 0o00223 [(.slice 2 (List.map Q6 p0)),(eI p1)] (fun d=>d=(.slice 1 (List.map rI res))):=
 au Tryz.func147 Q72.eq_1 .z
instance Z8q:∀ (n:Nat) (p0:X0) (p1:(List Q3)) (p2:Q2) (p400:(List (List Int))),Ct (Q0i n p0 p1 p2 p400) fun res=>Y4 Tryz.prog 0o00105 [⟨1,[[.sl 1 1 p400.length]],0,0x0039⟩,⟨1,List.map (rL 1 rI) p400,0,0x002c⟩] [(.agg (Q0t p0)),(.slice 9 (List.map X9 p1)),(.agg (X4 p2)),.clos 0o00106 [.ptr 1 0 0 0]] (fun H d=>H=[some ⟨1,[[.sl 1 2 res.2.2.2.length]],0,0x0039⟩,none,some ⟨1,List.map (rL 1 rI) res.2.2.2,0,0x002c⟩]∧d=.tup [(eI res.1),(.slice 1 (List.map rI res.2.1)),(eB res.2.2.1)]):=
 au Tryz.func69 Q0i.eq_1 (.o (.o (.o (.o (.o (.pB 0 (.w [] [0,1,42] [1,3,4,6] [0,1,42,2,10] (fun (s58:(List (List Int))×X0)=>[(3,.clos 0o00106 [(.ptr 1 0 0 0)])]) (fun s58=>[(1000000000,some ⟨1,[[(.sl 1 42 (s58.1).length)]],0,0x0039⟩),(1,none),(2,some ⟨6,[(Q0t s58.2)],0,0x0030⟩),(42,some ⟨1,(List.map (rL 1 rI) s58.1),0,0x002c⟩)]) (fun s58=>.i (.o (.o (.i (.o (.pF 182 .z)) .z))) (.i (.o (.i .z (.o (.o (.o (.i (.o (.pF 310 .z)) .z)))))) .z)) (fun s66=>.z))))))))
instance W3f:∀ (n:Nat) (p0:(List Q4)) (p1:Q7) (p2:(List Q3)) (p3:Int) (p4:Q2),Ct (Q67 n p0 p1 p2 p3 p4) fun res=>Q8 Tryz.prog 0o00032 [(.slice 2 (List.map W5 p0)),(.agg (W3 p1)),(.slice 9 (List.map X9 p2)),(eI p3),(.agg (X4 p4))] (fun d=>d=(.slice 1 (List.map (rL 1 rI) res))):=
 au Tryz.func26 Q67.eq_1 (.o (.o (.o (.o (.o (.o (.o (.i .z (.o (.i .z (.pcr 5 184 0 1 0x002c .z)))))))))))
instance W9r:∀ (p0:(List Z1)) (p1:Q2),Ct (Q6b p0 p1) fun res=>Q8 Tryz.prog 0o00230 [(.slice 9 (List.map Q02 p0)),(.agg (X4 p1))] (fun d=>d=.tup [(.agg (Q0t res.1)),(eB res.2)]):=
 au Tryz.func152 Q6b.eq_1 (.o (.o (.ls 0 (.f [4] [8] [0,3,4,6] [0,8] (fun (k159:Nat) (s155:Unit)=>[(6,eI (k159:Int))]) (fun k159 s155=>[]) (fun k159 s155=>.o (.j 4 0 [0,3,4,6] [0,1] (fun (s175:Unit)=>[]) (fun _=>[]) .z (fun _=>.z))) (fun s163=>.z)))))
instance V00:∀ (p0:Q27) (p1:(List Q1)),Ct (Q1x p0 p1) fun res=>Q8 Tryz.prog 0o00231 [(.agg (Q8c p0)),(.slice 2 (List.map Q6 p1))] (fun d=>d=.tup [(.slice 1 (List.map rI res.1)),(eB res.2)]):=
 au Tryz.func153 Q1x.eq_1 (.o (.o (.ls 1 (.f [] [] [1,2,6] [0] (fun (k78:Nat) (s74:Unit)=>[(6,eI (k78:Int))]) (fun k78 s74=>[]) (fun k78 s74=>.o (.i (.g [1,2,6] [0] [] [] (.d [0,1,2,3,4,5,6,7] [0] [] .z)) .z)) (fun s82=>.z)))))
instance W9z:∀ (p0:Q27) (p1:Int),Ct (Q6e p0 p1) fun res=>Q8 Tryz.prog 0o00232 [(.agg (Q8c p0)),(eI p1)] (fun d=>d=(eB res)):=
 au Tryz.func154 Q6e.eq_1 .z
instance V7n:∀ (p0:Q2) (p1:(List Int)),Ct (Q6f p0 p1) fun res=>Q8 Tryz.prog 0o00227 [(.agg (X4 p0)),(.slice 1 (List.map rI p1))] (fun d=>d=(.agg (X4 res))):=
 au Tryz.func151 Q6f.eq_1 (.o (.o (.ls 1 (.f [2,4] [0,8] [1,2,4,5] [0,8] (fun (k80:Nat) (s76:Q2)=>[(5,eI (k80:Int))]) (fun k80 s76=>[(0,some ⟨3,[(X4 s76)],0,0x001d⟩)]) (fun k80 s76=>.o (.i (.g [1,2,4,5] [0,1] [] [] (.o (.d [0,1,2,3,4,5,6,7,8] [0] [2] .z))) .z)) (fun s84=>.z)))))
instance V5g:∀ (n:Nat) (p0:(List Q3)) (p1:X0) (p2:Q2),Ct (Q8l n p0 p1 p2) fun res=>Q8 Tryz.prog 0o00110 [(.slice 9 (List.map X9 p0)),(.agg (Q0t p1)),(.agg (X4 p2))] (fun d=>d=.tup [(eI res.1),(.slice 1 (List.map rI res.2.1)),(eB res.2.2.1),(.slice 1 (List.map (rL 1 rI) res.2.2.2))]):=
 au Tryz.func72 Q8l.eq_1 (.o (.o (.o (.o (.w [10] [48] [0,4,5,10] [0,8,48] (fun (s66:X0×(List (List Int)))=>[(10,.sl 1 48 (s66.2).length)]) (fun s66=>[(0,some ⟨6,[(Q0t s66.1)],0,0x0030⟩),(48,some ⟨1,(List.map (rL 1 rI) s66.2),0,0x002c⟩)]) (fun s66=>.i (.i (.o (.i (.g [4,10] [0,2] [] [] (.d [0,1,2,3,4,5,6] [0] [] .z)) .z)) .z) .z) (fun s74=>.z))))))
instance V2r:∀ (p0:(List (List Int))) (p1:(List Int)),Ct (Q60 p0 p1) fun res=>Q8 Tryz.prog 0o00233 [(.slice 1 (List.map (rL 1 rI) p0)),(.slice 1 (List.map rI p1))] (fun d=>d=(eB res)):=
 au Tryz.func155 Q60.eq_1 (.o (.o (.ls 0 (.f [] [] [0,1,5] [] (fun (k54:Nat) (s50:Unit)=>[(5,eI (k54:Int))]) (fun k54 s50=>[]) (fun k54 s50=>.z) (fun s58=>.z)))))
instance V2s:∀ (p0:(List (List Int))),Ct (Q61 p0) fun res=>Q8 Tryz.prog 0o00111 [(.slice 1 (List.map (rL 1 rI) p0))] (fun d=>d=(.slice 1 (List.map (rL 1 rI) res))):=
 au Tryz.func73 Q61.eq_1 (.o (.ls 0 (.f [3] [8] [0,3,4] [8] (fun (k91:Nat) (s87:(List (List Int)))=>[(3,.sl 1 8 (s87).length),(4,eI (k91:Int))]) (fun k91 s87=>[(8,some ⟨1,(List.map (rL 1 rI) s87),0,0x002c⟩)]) (fun k91 s87=>.o (.j 5 0 [0,3,4] [0] (fun (s100:(List (List Int)))=>[(3,.sl 1 0 (s100).length)]) (fun s100=>[(0,some ⟨1,(List.map (rL 1 rI) s100),0,0x002c⟩)]) (.o (.i (.o (.o (.pF 137 .z))) .z)) (fun _=>.z))) (fun s95=>.z))))
instance W36:∀ (n:Nat) (p0:(List Q4)) (p1:Q7) (p2:(List Q3)) (p3:Int) (p4:Q2),Ct (Q64 n p0 p1 p2 p3 p4) fun res=>Q8 Tryz.prog 0o00033 [(.slice 2 (List.map W5 p0)),(.agg (W3 p1)),(.slice 9 (List.map X9 p2)),(eI p3),(.agg (X4 p4))] (fun d=>d=(.slice 1 (List.map (rL 1 rI) res))):=
 au Tryz.func27 Q64.eq_1 .z
instance V5h:∀ (p0:(List Int)) (p1:(List Int)),Ct (Q70 p0 p1) fun res=>Q8 Tryz.prog 0o00112 [(.slice 1 (List.map rI p0)),(.slice 1 (List.map rI p1))] (fun d=>d=(eB res)):=
 au Tryz.func74 Q70.eq_1 (.o (.o (.i .z (.ls 0 (.f [] [] [0,1,5] [] (fun (k56:Nat) (s52:Unit)=>[(5,eI (k56:Int))]) (fun k56 s52=>[]) (fun k56 s52=>.o (.g [0,1,5] [] [] [] (.o (.d [0,1,2,3,4,5,6,7,8] [] [] .z)))) (fun s60=>.z))))))
instance V2t:∀ (p0:(List (List Int))) (p1:(List (List Int))),Ct (Q38 p0 p1) fun res=>Q8 Tryz.prog 0o00034 [(.slice 1 (List.map (rL 1 rI) p0)),(.slice 1 (List.map (rL 1 rI) p1))] (fun d=>d=(eB res)):=
 au Tryz.func28 Q38.eq_1 (.o (.o (.i .z (.ls 0 (.f [] [] [0,1,5] [] (fun (k66:Nat) (s62:Unit)=>[(5,eI (k66:Int))]) (fun k66 s62=>[]) (fun k66 s62=>.o (.g [0,1,5] [] [] [] (.o (.o (.d [0,1,2,3,4,5,6,7,8,9] [] [] .z))))) (fun s70=>.z))))))
instance W17:∀ (n:Nat) (p0:(List Q4)) (p1:Q7) (p2:Q2),Ct (Q1l n p0 p1 p2) fun res=>Q8 Tryz.prog 0o00113 [(.slice 2 (List.map W5 p0)),(.agg (W3 p1)),(.agg (X4 p2))] (fun d=>d=(eB res)):=
 au Tryz.func75 Q1l.eq_1 .z
instance W78:∀ (p0:(List Int)) (q0:(List Int)),Ct (Q7n p0 q0) fun res=>Q8 Tryz.prog 0o00337 [(.slice 1 (List.map rI p0)),.cptr [(.slice 1 (List.map rI q0))]] (fun d=>d=(eB res)):=
 au Tryz.func223 Q7n.eq_1 .z
instance V31:∀ (p0:(List (List Int))) (p1:(List Int)),Ct (Q9g p0 p1) fun res=>Q8 Tryz.prog 0o00234 [(.slice 1 (List.map (rL 1 rI) p0)),(.slice 1 (List.map rI p1))] (fun d=>d=(eB res)):=
 au Tryz.func156 Q9g.eq_1 .z
instance V9l:Ct (Z2l) fun res=>Q8 Tryz.prog 0o00235 [] (fun d=>d=(.agg (X4 res))):=
 au Tryz.func157 Z2l.eq_1 .z
instance V9k:∀ (n:Nat) (p0:Q2) (p1:(List Int)) (p2:(List (List Int))),Ct (Q7v n p0 p1 p2) fun res=>Q8 Tryz.prog 0o00114 [(.agg (X4 p0)),(.slice 1 (List.map rI p1)),(.slice 1 (List.map (rL 1 rI) p2))] (fun d=>d=(.agg (X4 res))):=
 ar (au Tryz.func76 Q7v.eq_2 (.o (.o (.b fun (p0:Q2)=>.o (.o (.o (.i .z (.pC 88 2 3 0x001d (.ls 21 (.f [6,7] [8,88,136] [1,2,6,7,21,22,23] [8,88,136] (fun (k82:Nat) (s78:(List Q2))=>[(23,eI (k82:Int))]) (fun k82 s78=>[(1000000088,some ⟨3,[[(eI p0.ctor),(eI p0.n),(.sl 3 136 (s78).length)]],0,0x001d⟩),(136,some ⟨3,(List.map X4 s78),0,0x001d⟩)]) (fun k82 s78=>.o (.g [1,2,6,7,8,9,21,22,23] [0,1,2,35] [] [(1000000001,some ⟨3,[[(eI p0.ctor),(eI p0.n),(.sl 3 2 (s78).length)]],0,0x001d⟩)] (.o (.o (.o (.o (.dz [0,1,2,3,5,8,4,6,7,9,10,11,12,13] [1,3] [1048610] [40] .z))))))) (fun s86=>.z)))))))))))
instance W7f:∀ (n:Nat) (p0:(List Q4)) (p1:Q7) (p2:Q2) (p3:(List (List Int))),Ct (Q7p n p0 p1 p2 p3) fun res=>Q8 Tryz.prog 0o00035 [(.slice 2 (List.map W5 p0)),(.agg (W3 p1)),(.agg (X4 p2)),(.slice 1 (List.map (rL 1 rI) p3))] (fun d=>d=.tup [(.agg (X4 res.1)),(eB res.2)]):=
 au Tryz.func29 Q7p.eq_1 .z
instance V2y:∀ (n:Nat) (p0:X0) (p1:(List Q3)) (p2:Q2) (p3:((List Int)→Option Unit)) {p3_f:FuncId} {p3_c:List D} [p3_i:CF1 (fun a0=>(.slice 1 (List.map rI a0))) (fun r=>(.tup [])) p3 p3_f p3_c],Ct (Q7f n p0 p1 p2 p3) fun res=>Q8 Tryz.prog 0o00105 [(.agg (Q0t p0)),(.slice 9 (List.map X9 p1)),(.agg (X4 p2)),.clos p3_f p3_c] (fun d=>d=.tup [(eI res.1),(.slice 1 (List.map rI res.2.1)),(eB res.2.2)]):=
 au Tryz.func69 Q7f.eq_1 (.o (.o (.o (.o (.o (.o (.o (.o (.w [] [] [1,3,4,6] [0,8] (fun (s57:X0)=>[]) (fun s57=>[(0,some ⟨6,[(Q0t s57)],0,0x0030⟩)]) (fun s57=>.z) (fun s65=>.z))))))))))
instance W16:∀ (p0:(List Int)),Ct (Q5j p0) fun res=>Q8 Tryz.prog 0o00115 [(.slice 1 (List.map rI p0))] (fun d=>d=.tup []):=
 au Tryz.func77 Q5j.eq_1 .z
instance W5h:∀ (n:Nat) (p0:(List Q4)) (p1:Q7) (p2:(List Q3)) (p3:Int) (p4:Q2),Ct (Q74 n p0 p1 p2 p3 p4) fun res=>Q8 Tryz.prog 0o00036 [(.slice 2 (List.map W5 p0)),(.agg (W3 p1)),(.slice 9 (List.map X9 p2)),(eI p3),(.agg (X4 p4))] (fun d=>d=.tup [(eI res.1),(.slice 1 (List.map rI res.2.1)),(eB res.2.2)]):=
 au Tryz.func30 Q74.eq_1 .z
instance Z4q:∀ (n:Nat) (p0:(List Int)),Ct (Q23 n p0) fun res=>Q8 Tryz.prog 0o00006 [(.slice 1 (List.map (rK .u8) p0))] (fun d=>d=(eB res)):=
 au Tryz.func6 Q23.eq_1 (.o (.o (.i .z (.o (.o (.o (.o (.o (.i .z (.i .z (.ls 37 (.f [3,4,5,6,7,8,10,12,13] [96,104,432] [3,4,5,6,7,8,10,12,13,14] [96,104,432] (fun (k534:Nat) (s530:(List (List Int)))=>[(13,.sl 1 432 (s530).length),(14,eI (k534:Int))]) (fun k534 s530=>[(432,some ⟨1,(List.map (rL 1 rI) s530),0,0x002c⟩)]) (fun k534 s530=>.o (.w [3,4,5,6,7,8,10,12,13,14] [0,1,2] [3,4,5,6,7,8,10,12,13,14,15] [0,1,2] (fun (s584:(List (List Int))×Int)=>[(13,.sl 1 2 (s584.1).length),(15,eI s584.2)]) (fun s584=>[(2,some ⟨1,(List.map (rL 1 rI) s584.1),0,0x002c⟩)]) (fun s584=>.z) (fun s592=>.z))) (fun s538=>.z)))))))))))))
theorem Z4r (n:Nat)(p0:(List Int)):∀ res,Q23 n p0=some res→Q8 Tryz.prog 0o00006 [(.slice 1 (List.map (rK .u8) p0))] (fun d=>d=(eB res)):=(Z4q n p0).pf
end Go.Proofs.YtfhpjeogjcfkaaaGreat
