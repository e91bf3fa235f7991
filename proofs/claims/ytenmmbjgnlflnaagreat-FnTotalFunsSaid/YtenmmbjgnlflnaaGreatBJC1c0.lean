import Derived.Test.YtenmmbjgnlflnaaGreatBJC0b0
import Derived.Test.YtenmmbjgnlflnaaGreatBJC0c0
import Derived.Test.YtenmmbjgnlflnaaGreatBJC0a0
set_option linter.unusedSimpArgs false
set_option linter.unusedVariables false
namespace Go.Proofs.YtenmmbjgnlflnaaGreat
open Go Go.RowKit
set_option maxRecDepth 100000
set_option maxHeartbeats 20000000
instance V1d:∀ (n:Nat) (p0:Int),Ct (Z1d n p0) fun res=>Q7 Tryz.prog 0o00532 [(eI p0)] (fun d=>d=(eS res)):=
 au Tryz.func346 Z1d.eq_1 .z
instance V3n:∀ (p0:ByteArray),Ct (Z2a p0) fun res=>Q7 Tryz.prog 0o00253 [(eS p0)] (fun d=>d=(eB res)):=
 au Tryz.func171 Z2a.eq_1 .z
instance W5z:∀ (n:Nat) (p0:ByteArray),Ct (Q9b n p0) fun res=>Q7 Tryz.prog 0o00354 [(eS p0)] (fun d=>d=(eB res)):=
 au Tryz.func236 Q9b.eq_1 (.o (.o (.i .z (.i .z (.o (.o (.i .z (.w [] [] [0,3] [] (fun (s132:Int)=>[(3,eI s132)]) (fun s132=>[]) (fun s132=>.z) (fun s140=>.z)))))))))
instance V1f:∀ (p0:(List Q4)) (p1:Q2),Ct (Q0f p0 p1) fun res=>Q7 Tryz.prog 0o00224 [(.slice 2 (List.map Z8 p0)),(.agg (Z7 p1))] (fun d=>d=(.slice 1 (List.map rI res))):=
 au Tryz.func148 Q0f.eq_1 (.o (.o (.i .z (.b fun (x115:Q4)=>.le 0 1 3 Q8c x115.ctors x115 (.f [5] [16] [0,3,5,6] [0,16] (fun (k149:Nat) (s145:(List Int))=>[(5,.sl 1 16 (s145).length),(6,eI (k149:Int))]) (fun k149 s145=>[(16,some ⟨1,(List.map rI s145),0,0x0003⟩)]) (fun k149 s145=>.o (.j 7 0 [0,3,5,6] [0,1] (fun (s157:(List Int))=>[(5,.sl 1 1 (s157).length)]) (fun s157=>[(1,some ⟨1,(List.map rI s157),0,0x0003⟩)]) (.g [0,3,5,6] [0,1] [] [] (.o (.d [0,1,2,3,4,5,6,7,8,9,10,11] [0] [] .z))) (fun _=>.z))) (fun s153=>.z))))))
instance V3u:∀ (p0:(List Q4)) (p1:Q2),Ct (Q2v p0 p1) fun res=>Q7 Tryz.prog 0o00212 [(.slice 2 (List.map Z8 p0)),(.agg (Z7 p1))] (fun d=>d=(eB res)):=
 au Tryz.func138 Q2v.eq_1 .z
instance V6f:∀ (p0:Int),Ct (Q6p p0) fun res=>Q7 Tryz.prog 0o00241 [(eI p0)] (fun d=>d=(eB res)):=
 au Tryz.func161 Q6p.eq_1 .z
instance Z8u:∀ (p0:(List Q5)) (p1:(Q5→Option Bool)) {p1_f:FuncId} {p1_c:List D} [p1_i:CF1 (fun a0=>(.agg (X6 a0))) (fun r=>(eB r)) p1 p1_f p1_c],Ct (Q1c p0 p1) fun res=>Q7 Tryz.prog 0o00511 [(.slice 3 (List.map X6 p0)),.clos p1_f p1_c] (fun d=>d=(eB res)):=
 au Tryz.func329 Q1c.eq_1 .z
instance X2k:∀ (p0:(List Q5)) (p1:Q5),Ct (Q0g p0 p1) fun res=>Q7 Tryz.prog 0o00440 [(.slice 3 (List.map X6 p0)),(.agg (X6 p1))] (fun d=>d=(eB res)):=
 au Tryz.func288 Q0g.eq_1 .z
instance W4p:∀ (p0:Int) (p1:Int),Ct (Q5b p0 p1) fun res=>Q7 Tryz.prog 0o00157 [(eI p0),(eI p1)] (fun d=>d=(eI res)):=
 au Tryz.func111 Q5b.eq_1 .z
instance W4n:∀ (p0:Q4u) (p1:(List X1)),Ct (Q3s p0 p1) fun res=>Q7 Tryz.prog 0o00164 [(.agg (Q8q p0)),(.slice 4 (List.map Q02 p1))] (fun d=>d=(eB res)):=
 au Tryz.func116 Q3s.eq_1 .z
instance V37:∀ (n:Nat) (p0:(List X1)),Ct (Q70 n p0) fun res=>Q7 Tryz.prog 0o00415 [(.slice 4 (List.map Q02 p0))] (fun d=>d=(.slice 4 (List.map Q02 res))):=
 au Tryz.func269 Q70.eq_1 (.o (.o (.w [3] [8] [0,3,4] [8] (fun (s496:(List X1)×Int)=>[(3,.sl 4 8 (s496.1).length),(4,eI s496.2)]) (fun s496=>[(8,some ⟨4,(List.map Q02 s496.1),0,0x00d1⟩)]) (fun s496=>.i (.ls 0 (.f [0,3,4] [0] [0,3,4,5] [0] (fun (k587:Nat) (s583:(List X1))=>[(3,.sl 4 0 (s583).length),(5,eI (k587:Int))]) (fun k587 s583=>[(0,some ⟨4,(List.map Q02 s583),0,0x00d1⟩)]) (fun k587 s583=>.o (.j 8 0 [0,3,4,5] [0] (fun (s595:(List X1))=>[(3,.sl 4 0 (s595).length)]) (fun s595=>[(0,some ⟨4,(List.map Q02 s595),0,0x00d1⟩)]) .z (fun _=>.z))) (fun s591=>.z))) .z) (fun s504=>.z))))
end Go.Proofs.YtenmmbjgnlflnaaGreat
