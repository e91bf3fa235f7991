import Derived.Test.YtfhpjeogjcfkaaaGreatRJMir
import Derived.Test.YtfhpjeogjcfkaaaGreatRJAuto
set_option linter.unusedSimpArgs false
set_option linter.unusedVariables false
namespace Go.Proofs.YtfhpjeogjcfkaaaGreat
open Go Go.RowKit
set_option maxRecDepth 100000
set_option maxHeartbeats 20000000
instance W1v:∀ (p0:Q6w) (p1:Int),Ct (Q7i p0 p1) fun res=>Z2 Tryz.prog 0o00411 [(.agg (Q5r p0)),(eI p1)] (fun d=>d=(eI res)):=
 au Tryz.func265 Q7i.eq_1 .z
instance W8g:∀ (p0:(List Int)) (p1:Int),Ct (Q4b p0 p1) fun res=>Z2 Tryz.prog 0o00304 [(.slice 1 (List.map rI p0)),(eI p1)] (fun d=>d=(eB res)):=
 au Tryz.func196 Q4b.eq_1 (.o (.o (.ls 0 (.f [] [] [0,1,5] [] (fun (k44:Nat) (s40:Unit)=>[(5,eI (k44:Int))]) (fun k44 s40=>[]) (fun k44 s40=>.z) (fun s48=>.z)))))
instance W3w:∀ (n:Nat) (p0:Q0) (p1:Int),Ct (Q2x n p0 p1) fun res=>Z2 Tryz.prog 0o00446 [(.agg (Z0 p0)),(eI p1)] (fun d=>d=(eI res)):=
 ar (au Tryz.func294 Q2x.eq_2 (.o (.o (.b fun (p0:Q0)=>.o (.lc 0 5 6 Z0 p0.kids (.f [5] [] [1,2,5,6] [0] (fun (k80:Nat) (s76:Int)=>[(5,eI s76),(6,eI (k80:Int))]) (fun k80 s76=>[]) (fun k80 s76=>.z) (fun s84=>.z)))))))
instance W6e:∀ (p0:Q6),Ct (Q90 p0) fun res=>Z2 Tryz.prog 0o00466 [(.agg (W6 p0))] (fun d=>d=(eI res)):=
 au Tryz.func310 Q90.eq_1 .z
instance W8i:∀ (p0:Int) (p1:Q6),Ct (Q84 p0 p1) fun res=>Z2 Tryz.prog 0o00444 [(eI p0),(.agg (W6 p1))] (fun d=>d=(eB res)):=
 au Tryz.func292 Q84.eq_1 .z
instance W6n:∀ (p0:Int) (p1:Int) (p2:Int),Ct (Y2 p0 p1 p2) fun res=>Z2 Tryz.prog 0o00071 [(eI p0),(eI p1),(eI p2)] (fun d=>d=(eB res)):=
 au Tryz.func57 Y2.eq_1 .z
instance V08:∀ (p0:Q0) (p1:Bool) (p2:Bool) (p3:Bool) (p4:Int),Ct (Q32 p0 p1 p2 p3 p4) fun res=>Z2 Tryz.prog 0o00515 [(.agg (Z0 p0)),(eB p1),(eB p2),(eB p3),(eI p4)] (fun d=>d=(eB res)):=
 au Tryz.func333 Q32.eq_1 .z
instance Z7l:∀ (p0:(List Z1)) (p1:(Z1→Option Bool)) {p1_f:FuncId} {p1_c:List D} [p1_i:CF1 (fun a0=>(.agg (V6 a0))) (fun r=>(eB r)) p1 p1_f p1_c],Ct (Q30 p0 p1) fun res=>Z2 Tryz.prog 0o00310 [(.slice 9 (List.map V6 p0)),.clos p1_f p1_c] (fun d=>d=(eI res)):=
 au Tryz.func200 Q30.eq_1 (.o (.o (.o (.o (.o (.ls 0 (.f [] [] [0,1,7,8] [] (fun (k54:Nat) (s50:Unit)=>[(8,eI (k54:Int))]) (fun k54 s50=>[]) (fun k54 s50=>.z) (fun s58=>.z))))))))
instance X83:∀ (n:Nat) (p0:Q0),Ct (Q0r n p0) fun res=>Z2 Tryz.prog 0o00172 [(.agg (Z0 p0))] (fun d=>d=(eI res)):=
 ar (au Tryz.func122 Q0r.eq_2 (.o (.o (.o (.j 2 0 [1,3] [0] (fun (s2:Int)=>[(3,eI s2)]) (fun _=>[]) .z (fun s2=>.ls 10 (.f [3] [] [1,3,10,11,12] [0] (fun (k86:Nat) (s82:Int)=>[(3,eI s82),(12,eI (k86:Int))]) (fun k86 s82=>[]) (fun k86 s82=>.o (.j 6 0 [1,3,10,11,12] [0] (fun (s94:Int)=>[(3,eI s94)]) (fun _=>[]) .z (fun _=>.z))) (fun s90=>.z))))))))
instance X84:Ct (Q1y) fun res=>Z2 Tryz.prog 0o00176 [] (fun d=>d=(.agg (Z0 res))):=
 au Tryz.func126 Q1y.eq_1 .z
instance X3b:∀ (p1:Int),Ct (Q1n p1) fun res=>J4 Tryz.prog 0o00330 [] [.nil,(eI p1)] (fun H d=>H=[some ⟨3,List.map Q0v res,0,0x006f⟩]∧d=.sl 3 0 res.length):=
 au Tryz.func216 Q1n.eq_1 (.o (.i .z (.j 3 0 [0] [9000] (fun (s6:Unit)=>[(0,.sl 3 9000 0)]) (fun _=>[(9000,some ⟨3,(List.map Q0v []),0,0x006f⟩)]) (.i (.o (.o (.pS 144 0 Q0v ([]:List Z5) .z))) (.pN 0 3 0x006f .z)) (fun _=>.z))))
instance V07:∀ (p0:Q2) (p1:(List Int)),Ct (Q5f p0 p1) fun res=>Z2 Tryz.prog 0o00146 [(.agg (W4 p0)),(.slice 1 (List.map rI p1))] (fun d=>d=(.agg (W4 res))):=
 au Tryz.func102 Q5f.eq_1 (.o (.o (.ls 1 (.f [2,4] [0,8] [2,4,7,8,9] [0,8] (fun (k46:Nat) (s42:Q2)=>[(9,eI (k46:Int))]) (fun k46 s42=>[(0,some ⟨3,[(W4 s42)],0,0x001d⟩)]) (fun k46 s42=>.z) (fun s50=>.z)))))
instance Z7m:∀ (p0:(List Q8)) (p1:(Q8→Option Bool)) {p1_f:FuncId} {p1_c:List D} [p1_i:CF1 (fun a0=>(.agg (J3 a0))) (fun r=>(eB r)) p1 p1_f p1_c],Ct (Q0n p0 p1) fun res=>Z2 Tryz.prog 0o00217 [(.slice 9 (List.map J3 p0)),.clos p1_f p1_c] (fun d=>d=(eI res)):=
 au Tryz.func143 Q0n.eq_1 (.o (.o (.o (.o (.o (.ls 0 (.f [] [] [0,1,7,8] [] (fun (k54:Nat) (s50:Unit)=>[(8,eI (k54:Int))]) (fun k54 s50=>[]) (fun k54 s50=>.z) (fun s58=>.z))))))))
instance X7v:∀ (p0:(List Int)) (p1:(List Int)),Ct (Q16 p0 p1) fun res=>Z2 Tryz.prog 0o00321 [(.slice 1 (List.map rI p0)),(.slice 1 (List.map rI p1))] (fun d=>d=(eB res)):=
 au Tryz.func209 Q16.eq_1 (.o (.o (.i .z (.ls 0 (.f [] [] [0,1,5] [] (fun (k56:Nat) (s52:Unit)=>[(5,eI (k56:Int))]) (fun k56 s52=>[]) (fun k56 s52=>.o (.g [0,1,5] [] [] [] (.o (.d [0,1,2,3,4,5,6,7,8] [] [] .z)))) (fun s60=>.z))))))
instance W8d:∀ (p0:(List V2)) (p1:Int) (p2:Int),Ct (Q5j p0 p1 p2) fun res=>Z2 Tryz.prog 0o00512 [(.slice 3 (List.map Q1e p0)),(eI p1),(eI p2)] (fun d=>d=(eB res)):=
 au Tryz.func330 Q5j.eq_1 (.o (.o (.o (.ls 0 (.f [] [] [0,1,2,7] [] (fun (k139:Nat) (s135:Unit)=>[(7,eI (k139:Int))]) (fun k139 s135=>[]) (fun k139 s135=>.o (.j 4 0 [0,1,2,7] [] (fun (s153:Unit)=>[]) (fun _=>[]) .z (fun _=>.z))) (fun s143=>.z))))))
end Go.Proofs.YtfhpjeogjcfkaaaGreat
