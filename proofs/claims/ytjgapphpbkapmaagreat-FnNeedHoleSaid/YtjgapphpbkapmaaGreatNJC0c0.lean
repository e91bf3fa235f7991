import Derived.Test.YtjgapphpbkapmaaGreatNJMir
import Derived.Test.YtjgapphpbkapmaaGreatNJAuto
set_option linter.unusedSimpArgs false
set_option linter.unusedVariables false
namespace Go.Proofs.YtjgapphpbkapmaaGreat
open Go Go.RowKit
set_option maxRecDepth 100000
set_option maxHeartbeats 20000000
instance Z5w:∀ (p0:(List Z0)) (p1:(Z0→Option Bool)) {p1_f:FuncId} {p1_c:List D} [p1_i:CF1 (fun a0=>(.agg (V6 a0))) (fun r=>(eB r)) p1 p1_f p1_c],Ct (Q2o p0 p1) fun res=>Z1 Tryz.prog 0o00264 [(.slice 9 (List.map V6 p0)),.clos p1_f p1_c] (fun d=>d=(eI res)):=
 au Tryz.func180 Q2o.eq_1 (.o (.o (.o (.o (.o (.ls 0 (.f [] [] [0,1,7,8] [] (fun (k54:Nat) (s50:Unit)=>[(8,eI (k54:Int))]) (fun k54 s50=>[]) (fun k54 s50=>.z) (fun s58=>.z))))))))
instance X3z:∀ (p0:(List Int)) (p1:Int),Ct (Q3p p0 p1) fun res=>Z1 Tryz.prog 0o00315 [(.slice 1 (List.map rI p0)),(eI p1)] (fun d=>d=(eI res)):=
 au Tryz.func205 Q3p.eq_1 (.o (.o (.ls 0 (.f [] [] [0,1,7,8] [] (fun (k44:Nat) (s40:Unit)=>[(8,eI (k44:Int))]) (fun k44 s40=>[]) (fun k44 s40=>.z) (fun s48=>.z)))))
instance W3v:∀ (p0:(List Int)) (p1:(List Int)),Ct (Q0j p0 p1) fun res=>Z1 Tryz.prog 0o00030 [(.slice 1 (List.map rI p0)),(.slice 1 (List.map rI p1))] (fun d=>d=(eB res)):=
 au Tryz.func24 Q0j.eq_1 (.o (.o (.i .z (.ls 0 (.f [] [] [0,1,5] [] (fun (k56:Nat) (s52:Unit)=>[(5,eI (k56:Int))]) (fun k56 s52=>[]) (fun k56 s52=>.o (.g [0,1,5] [] [] [] (.o (.d [0,1,2,3,4,5,6,7,8] [] [] .z)))) (fun s60=>.z))))))
instance X5j:∀ (p0:Z7) (p1:Int),Ct (Z4 p0 p1) fun res=>J2 Tryz.prog 0o00157 [⟨2,[(V0 p0)],0,0x00c5⟩] [.ptr 2 0 0 0,(eI p1)] (fun H d=>H=[some ⟨2,[(V0 res.2)],0,0x00c5⟩]∧d=(eI res.1)):=
 au Tryz.func111 Z4.eq_1 (.o (.o (.i .z (.i .z (.i .z (.g [0,1,5] [0] [] [] (.o (.o (.o (.d [0,1,2,3,4,5,6,7,8,9,10,11,12,13,14,15,16,17,18,19,20,21,22,23,24,25,26,27,28,29,30,31,32,33,34,35,36,37,38,39,40,41,42,43,44,45] [0] [] .z))))))))))
instance W3t:∀ (n:Nat) (p0:ByteArray) (p1:Int),Ct (Q2b n p0 p1) fun res=>Z1 Tryz.prog 0o00432 [(eS p0),(.val (.int .u8 p1))] (fun d=>d=(.slice 1 (List.map rS res))):=
 au Tryz.func282 Q2b.eq_1 (.o (.o (.o (.w [5] [8] [0,1,5,6,7] [8] (fun (s203:(List ByteArray)×Int×Int)=>[(5,.sl 1 8 (s203.1).length),(6,eI s203.2.1),(7,eI s203.2.2)]) (fun s203=>[(8,some ⟨1,(List.map rS s203.1),0,0x0009⟩)]) (fun s203=>.i (.j 6 0 [0,1,5,6,7] [0] (fun (s230:(List ByteArray)×Int)=>[(5,.sl 1 0 (s230.1).length),(6,eI s230.2)]) (fun s230=>[(0,some ⟨1,(List.map rS s230.1),0,0x0009⟩)]) .z (fun _=>.z)) .z) (fun s211=>.z)))))
instance W5n:∀ (p0:Int) (p1:Q5),Ct (Q7f p0 p1) fun res=>Z1 Tryz.prog 0o00404 [(eI p0),(.agg (W1 p1))] (fun d=>d=(eB res)):=
 au Tryz.func260 Q7f.eq_1 .z
instance W1f:Ct (Q3n) fun res=>Z1 Tryz.prog 0o00367 [] (fun d=>d=(.slice 1 (List.map rS res))):=
 au Tryz.func247 Q3n.eq_1 .z
instance W3n:∀ (p0:Q67) (p1:Int),Ct (Q8c p0 p1) fun res=>Z1 Tryz.prog 0o00345 [(.agg (Q57 p0)),(eI p1)] (fun d=>d=(eB res)):=
 au Tryz.func229 Q8c.eq_1 .z
instance X2a:∀ (p0:(List Int)),Ct (Q3c p0) fun res=>Z1 Tryz.prog 0o00110 [(.slice 1 (List.map rI p0))] (fun d=>d=.tup []):=
 au Tryz.func72 Q3c.eq_1 .z
instance X9i:∀ (p0:Q1) (q0:Int),Ct (Q3y p0 q0) fun res=>Z1 Tryz.prog 0o00312 [(.agg (Q8 p0)),.cptr [(eI q0)]] (fun d=>d=(eB res)):=
 au Tryz.func202 Q3y.eq_1 .z
instance W1c:∀ (n:Nat) (p0:Z2) (p1:Int),Ct (Q2n n p0 p1) fun res=>Z1 Tryz.prog 0o00144 [(.agg (V2 p0)),(eI p1)] (fun d=>d=(eI res)):=
 ar (au Tryz.func100 Q2n.eq_2 (.o (.o (.b fun (p0:Z2)=>.o (.lc 0 2 3 V2 p0.kids (.f [5] [] [1,2,5,6] [0] (fun (k80:Nat) (s76:Int)=>[(5,eI s76),(6,eI (k80:Int))]) (fun k80 s76=>[]) (fun k80 s76=>.z) (fun s84=>.z)))))))
instance W5p:∀ (p0:Z2) (p1:(List Int)),Ct (Q3v p0 p1) fun res=>Z1 Tryz.prog 0o00222 [(.agg (V2 p0)),(.slice 1 (List.map rI p1))] (fun d=>d=(.agg (V2 res))):=
 au Tryz.func146 Q3v.eq_1 (.o (.o (.ls 1 (.f [2,4] [0,8] [1,2,4,5] [0,8] (fun (k80:Nat) (s76:Z2)=>[(5,eI (k80:Int))]) (fun k80 s76=>[(0,some ⟨3,[(V2 s76)],0,0x001d⟩)]) (fun k80 s76=>.o (.i (.g [1,2,4,5] [0,1] [] [] (.o (.d [0,1,2,3,4,5,6,7,8] [0] [2] .z))) .z)) (fun s84=>.z)))))
instance X91:∀ (p0:(List Q9)) (p1:Z2),Ct (Q3r p0 p1) fun res=>Z1 Tryz.prog 0o00223 [(.slice 9 (List.map Y8 p0)),(.agg (V2 p1))] (fun d=>d=.tup [(.agg (Q22 res.1)),(eB res.2)]):=
 au Tryz.func147 Q3r.eq_1 (.o (.o (.ls 0 (.f [4] [8] [0,3,4,6] [0,8] (fun (k159:Nat) (s155:Unit)=>[(6,eI (k159:Int))]) (fun k159 s155=>[]) (fun k159 s155=>.o (.j 4 0 [0,3,4,6] [0,1] (fun (s175:Unit)=>[]) (fun _=>[]) .z (fun _=>.z))) (fun s163=>.z)))))
instance W11:∀ (p0:(List W8)) (p1:Int),Ct (Q2j p0 p1) fun res=>Z1 Tryz.prog 0o00425 [(.slice 3 (List.map Q15 p0)),(eI p1)] (fun d=>d=(eI res)):=
 au Tryz.func277 Q2j.eq_1 (.o (.o (.ls 0 (.f [5] [] [0,1,5,6] [] (fun (k71:Nat) (s67:Int)=>[(5,eI s67),(6,eI (k71:Int))]) (fun k71 s67=>[]) (fun k71 s67=>.o (.j 5 0 [0,1,5,6] [] (fun (s78:Int)=>[(5,eI s78)]) (fun _=>[]) .z (fun _=>.z))) (fun s75=>.z)))))
instance W5j:Ct (Q33) fun res=>Z1 Tryz.prog 0o00272 [] (fun d=>d=(.agg (Q7 res))):=
 au Tryz.func186 Q33.eq_1 .z
instance W35:∀ (p0:(List Int)) (p1:Int),Ct (Q59 p0 p1) fun res=>Z1 Tryz.prog 0o00344 [(.slice 1 (List.map rI p0)),(eI p1)] (fun d=>d=(.slice 1 (List.map rI res))):=
 au Tryz.func228 Q59.eq_1 .z
end Go.Proofs.YtjgapphpbkapmaaGreat
