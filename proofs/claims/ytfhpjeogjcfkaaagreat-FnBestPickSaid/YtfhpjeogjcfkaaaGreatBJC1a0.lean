import Derived.Test.YtfhpjeogjcfkaaaGreatBJC0d0
import Derived.Test.YtfhpjeogjcfkaaaGreatBJC0b0
import Derived.Test.YtfhpjeogjcfkaaaGreatBJC0c0
set_option linter.unusedSimpArgs false
set_option linter.unusedVariables false
namespace Go.Proofs.YtfhpjeogjcfkaaaGreat
open Go Go.RowKit
set_option maxRecDepth 100000
set_option maxHeartbeats 20000000
instance V2p:∀ (p0:(List Q4)) (p1:Q7),Ct (Q1f p0 p1) fun res=>Q8 Tryz.prog 0o00305 [(.slice 2 (List.map W5 p0)),(.agg (W3 p1))] (fun d=>d=(.slice 1 (List.map rI res))):=
 au Tryz.func197 Q1f.eq_1 (.o (.o (.i .z (.b fun (x115:Q4)=>.le 0 1 3 Q8d x115.ctors x115 (.f [5] [16] [0,3,5,6] [0,16] (fun (k149:Nat) (s145:(List Int))=>[(5,.sl 1 16 (s145).length),(6,eI (k149:Int))]) (fun k149 s145=>[(16,some ⟨1,(List.map rI s145),0,0x0003⟩)]) (fun k149 s145=>.o (.j 7 0 [0,3,5,6] [0,1] (fun (s157:(List Int))=>[(5,.sl 1 1 (s157).length)]) (fun s157=>[(1,some ⟨1,(List.map rI s157),0,0x0003⟩)]) (.g [0,3,5,6] [0,1] [] [] (.o (.d [0,1,2,3,4,5,6,7,8,9,10,11] [0] [] .z))) (fun _=>.z))) (fun s153=>.z))))))
instance W34:∀ (p0:(List ByteArray)) (p1:ByteArray),Ct (Q8i p0 p1) fun res=>Q8 Tryz.prog 0o00545 [(.slice 1 (List.map rS p0)),(eS p1)] (fun d=>d=(.agg (W3 res))):=
 au Tryz.func357 Q8i.eq_1 (.o (.o (.i .z (.o (.b fun (r4:(Int))=>.j 4 0 [4,5] [0,64] (fun (s18:Int)=>[]) (fun s18=>[(64,some ⟨2,[[(eI r4),(eI s18)]],0,0x0019⟩)]) .z (fun _=>.z))))))
instance V5b:∀ (p0:ByteArray),Ct (Z2j p0) fun res=>Q8 Tryz.prog 0o00441 [(eS p0)] (fun d=>d=(eB res)):=
 au Tryz.func289 Z2j.eq_1 .z
instance W70:∀ (n:Nat) (p0:ByteArray),Ct (Q9v n p0) fun res=>Q8 Tryz.prog 0o00520 [(eS p0)] (fun d=>d=(eB res)):=
 au Tryz.func336 Q9v.eq_1 (.o (.o (.i .z (.i .z (.o (.o (.i .z (.w [] [] [0,3] [] (fun (s132:Int)=>[(3,eI s132)]) (fun s132=>[]) (fun s132=>.z) (fun s140=>.z)))))))))
instance Z7b:∀ (n:Nat) (p0:(List Q1)) (p1:Int) (p2:Int) (p3:Int) (p4:(Q1→Q1→Option Int)) {p4_f:FuncId} {p4_c:List D} [p4_i:CF2 (fun a0=>(.agg (Q6 a0))) (fun a1=>(.agg (Q6 a1))) (fun r=>(eI r)) p4 p4_f p4_c],Ct (Q0x n p0 p1 p2 p3 p4) fun res=>Y4 Tryz.prog 0o00272 [⟨2,List.map Q6 p0,0,0x0095⟩] [.sl 2 0 p0.length,(eI p1),(eI p2),(eI p3),.clos p4_f p4_c] (fun H d=>H=[some ⟨2,List.map Q6 res,0,0x0095⟩]∧d=.tup []):=
 ar (au Tryz.func186 Q0x.eq_2 (.o (.o (.o (.o (.o (.o (.o (.o (.o (.o (.w [] [0] [0,1,2,3,4,10,11] [0] (fun (s10:Unit)=>[]) (fun s10=>[]) (fun s10=>.z) (fun s18=>.z)))))))))))))
instance X8i:∀ (p0:(List Int)) (p1:Int),Ct (Q0h p0 p1) fun res=>Q8 Tryz.prog 0o00275 [(.slice 1 (List.map rI p0)),(eI p1)] (fun d=>d=(eB res)):=
 au Tryz.func189 Q0h.eq_1 .z
instance Z99:∀ (p0:(List Z4)) (p1:(Z4→Option Bool)) {p1_f:FuncId} {p1_c:List D} [p1_i:CF1 (fun a0=>(.agg (Y8 a0))) (fun r=>(eB r)) p1 p1_f p1_c],Ct (Q1h p0 p1) fun res=>Q8 Tryz.prog 0o00535 [(.slice 3 (List.map Y8 p0)),.clos p1_f p1_c] (fun d=>d=(eB res)):=
 au Tryz.func349 Q1h.eq_1 .z
instance V7v:∀ (n:Nat) (p0:(List Q1)) (p1:Q2),Ct (Q6m n p0 p1) fun res=>Q8 Tryz.prog 0o00147 [(.slice 2 (List.map Q6 p0)),(.agg (X4 p1))] (fun d=>d=(.slice 4 (List.map Q15 res))):=
 au Tryz.func103 Q6m.eq_1 (.o (.o (.o (.pN 5 4 0x0057 (.ls 0 (.f [5] [48] [3,5,8,9,10] [0,48] (fun (k66:Nat) (s62:(List X3))=>[(5,.sl 4 48 (s62).length),(10,eI (k66:Int))]) (fun k66 s62=>[(48,some ⟨4,(List.map Q15 s62),0,0x0057⟩)]) (fun k66 s62=>.o (.g [3,5,7,8,9,10] [0,1,26] [] [] (.o (.o (.o (.d [0,1,2,3,4,5,6,7,8,9,10,11] [0,2] [] .z)))))) (fun s70=>.z)))))))
instance W6w:∀ (n:Nat) (p0:Y3) (p1:Q0) (p2:(List Int)),Ct (Q7l n p0 p1 p2) fun res=>Y4 Tryz.prog 0o00423 [⟨6,List.map Z2 p0.pats,0,0x0064⟩] [.agg [(eI p0.clause),.sl 6 0 p0.pats.length,(.slice 2 (List.map Q6 p0.binds))],(.agg (Z2 p1)),(.slice 1 (List.map rI p2))] (fun H d=>H=[some ⟨6,List.map Z2 res.1.pats,0,0x0064⟩]∧d=.tup [.agg [(eI res.1.clause),.sl 6 0 res.1.pats.length,(.slice 2 (List.map Q6 res.1.binds))],(.agg (Z2 res.2))]):=
 au Tryz.func275 Q7l.eq_1 (.o (.b fun (p0:Y3)=>.o (.b fun (p2:(List Int))=>.w [2,3,4,6,7] [0,1,9,17,25] [2,3,4,6,7] [0,1,9,17,25] (fun (s16:(List Q1)×Q0)=>[]) (fun s16=>[(1000000001,some ⟨3,[[(eI p0.clause),(.sl 6 0 (p0.pats).length),(.slice 2 (List.map Q6 s16.1))]],0,0x0142⟩),(9,some ⟨6,[(Z2 s16.2)],0,0x0064⟩)]) (fun s16=>.i (.g [2,3,4,6,7] [0,1,2,3,4] [] [(1000000001,some ⟨3,[[(eI p0.clause),(.sl 6 0 (p0.pats).length),(.slice 2 (List.map Q6 s16.1))]],0,0x0142⟩)] (.o (.o (.o (.dz [1,2,4,5,7,0,3,6,8,9,10,11,12,13] [1,2] [1048593] [23] (.o (.pF 2097168 (.pF 2097184 .z)))))))) .z) (fun s24=>.i (.g [2,3,4,6,7] [0,1,2,3,4] [] [(1000000001,some ⟨3,[[(eI p0.clause),(.sl 6 0 (p0.pats).length),(.slice 2 (List.map Q6 s24.1))]],0,0x0142⟩)] (.o (.o (.o (.dz [1,2,4,5,7,0,3,6,8,9,10,11,12,13] [1,2] [1048613] [43] (.pF 2097168 (.g [3,6,7] [0,1,2097184,3,4] [] [(1000000001,some ⟨3,[[(eI p0.clause),(.sl 6 0 (p0.pats).length),(.sl 2 2097184 ((s24.1++[(Q1.mk s24.2.var p2)])).length)]],0,0x0142⟩),(2097184,some ⟨2,(List.map Q6 (s24.1++[(Q1.mk s24.2.var p2)])),0,0x0095⟩)] (.o (.d [0,1,2,3] [1] [] (.pF 2 .z)))))))))) (.g [3,4,6,7] [0,1,2,3,4] [] [(1000000001,some ⟨3,[[(eI p0.clause),(.sl 6 0 (p0.pats).length),(.slice 2 (List.map Q6 s24.1))]],0,0x0142⟩)] (.d [0,1,2,3] [1,2] [] .z))))))
end Go.Proofs.YtfhpjeogjcfkaaaGreat
