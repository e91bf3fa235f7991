import Derived.Test.YtenmmbjgnlflnaaGreatJC0a0
import Derived.Test.YtenmmbjgnlflnaaGreatJC0c0
import Derived.Test.YtenmmbjgnlflnaaGreatJC0b0
import Derived.Test.YtenmmbjgnlflnaaGreatJC0d0
set_option linter.unusedSimpArgs false
set_option linter.unusedVariables false
namespace Go.Proofs.YtenmmbjgnlflnaaGreat
open Go Go.RowKit
set_option maxRecDepth 100000
set_option maxHeartbeats 20000000
instance W1l:∀ (n:Nat) (p0:Int),Ct (Q7x n p0) fun res=>Q6 Tryz.prog 0o00532 [(eI p0)] (fun d=>d=(eS res)):=
 au Tryz.func346 Q7x.eq_1 .z
instance W3j:∀ (p0:ByteArray),Ct (Q8q p0) fun res=>Q6 Tryz.prog 0o00253 [(eS p0)] (fun d=>d=(eB res)):=
 au Tryz.func171 Q8q.eq_1 .z
instance X7c:∀ (n:Nat) (p0:ByteArray),Ct (Q68 n p0) fun res=>Q6 Tryz.prog 0o00354 [(eS p0)] (fun d=>d=(eB res)):=
 au Tryz.func236 Q68.eq_1 (.o (.o (.i .z (.i .z (.o (.o (.i .z (.w [] [] [0,3] [] (fun (s132:Int)=>[(3,eI s132)]) (fun s132=>[]) (fun s132=>.z) (fun s140=>.z)))))))))
instance W1n:∀ (p0:(List Q2)) (p1:Q3),Ct (Q04 p0 p1) fun res=>Q6 Tryz.prog 0o00224 [(.slice 2 (List.map Z5 p0)),(.agg (Z6 p1))] (fun d=>d=(.slice 1 (List.map rI res))):=
 au Tryz.func148 Q04.eq_1 (.o (.o (.i .z (.b fun (x115:Q2)=>.le 0 1 3 Q54 x115.ctors x115 (.f [5] [16] [0,3,5,6] [0,16] (fun (k149:Nat) (s145:(List Int))=>[(5,.sl 1 16 (s145).length),(6,eI (k149:Int))]) (fun k149 s145=>[(16,some ⟨1,(List.map rI s145),0,0x0003⟩)]) (fun k149 s145=>.o (.j 7 0 [0,3,5,6] [0,1] (fun (s157:(List Int))=>[(5,.sl 1 1 (s157).length)]) (fun s157=>[(1,some ⟨1,(List.map rI s157),0,0x0003⟩)]) (.g [0,3,5,6] [0,1] [] [] (.o (.d [0,1,2,3,4,5,6,7,8,9,10,11] [0] [] .z))) (fun _=>.z))) (fun s153=>.z))))))
instance W3q:∀ (p0:(List Q2)) (p1:Q3),Ct (Q13 p0 p1) fun res=>Q6 Tryz.prog 0o00212 [(.slice 2 (List.map Z5 p0)),(.agg (Z6 p1))] (fun d=>d=(eB res)):=
 au Tryz.func138 Q13.eq_1 .z
instance W5z:∀ (p0:Int),Ct (Q3v p0) fun res=>Q6 Tryz.prog 0o00241 [(eI p0)] (fun d=>d=(eB res)):=
 au Tryz.func161 Q3v.eq_1 .z
instance Z6m:∀ (p0:(List Q1)) (p1:Q1),Ct (Y7 p0 p1) fun res=>Q6 Tryz.prog 0o00440 [(.slice 3 (List.map Z8 p0)),(.agg (Z8 p1))] (fun d=>d=(eB res)):=
 au Tryz.func288 Y7.eq_1 .z
instance X6b:∀ (p0:Int) (p1:Int),Ct (Q2z p0 p1) fun res=>Q6 Tryz.prog 0o00157 [(eI p0),(eI p1)] (fun d=>d=(eI res)):=
 au Tryz.func111 Q2z.eq_1 .z
instance X69:∀ (p0:Q2i) (p1:(List Z3)),Ct (Q1q p0 p1) fun res=>Q6 Tryz.prog 0o00164 [(.agg (Q5j p0)),(.slice 4 (List.map V9 p1))] (fun d=>d=(eB res)):=
 au Tryz.func116 Q1q.eq_1 .z
instance W34:∀ (n:Nat) (p0:(List Z3)),Ct (Q43 n p0) fun res=>Q6 Tryz.prog 0o00415 [(.slice 4 (List.map V9 p0))] (fun d=>d=(.slice 4 (List.map V9 res))):=
 au Tryz.func269 Q43.eq_1 (.o (.o (.w [3] [8] [0,3,4] [8] (fun (s496:(List Z3)×Int)=>[(3,.sl 4 8 (s496.1).length),(4,eI s496.2)]) (fun s496=>[(8,some ⟨4,(List.map V9 s496.1),0,0x00d1⟩)]) (fun s496=>.i (.ls 0 (.f [0,3,4] [0] [0,3,4,5] [0] (fun (k587:Nat) (s583:(List Z3))=>[(3,.sl 4 0 (s583).length),(5,eI (k587:Int))]) (fun k587 s583=>[(0,some ⟨4,(List.map V9 s583),0,0x00d1⟩)]) (fun k587 s583=>.o (.j 8 0 [0,3,4,5] [0] (fun (s595:(List Z3))=>[(3,.sl 4 0 (s595).length)]) (fun s595=>[(0,some ⟨4,(List.map V9 s595),0,0x00d1⟩)]) .z (fun _=>.z))) (fun s591=>.z))) .z) (fun s504=>.z))))
end Go.Proofs.YtenmmbjgnlflnaaGreat
