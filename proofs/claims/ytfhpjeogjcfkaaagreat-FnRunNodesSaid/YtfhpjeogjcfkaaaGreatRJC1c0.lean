import Derived.Test.YtfhpjeogjcfkaaaGreatRJC0a0
import Derived.Test.YtfhpjeogjcfkaaaGreatRJC0d0
import Derived.Test.YtfhpjeogjcfkaaaGreatRJC0c0
import Derived.Test.YtfhpjeogjcfkaaaGreatRJC0b0
set_option linter.unusedSimpArgs false
set_option linter.unusedVariables false
namespace Go.Proofs.YtfhpjeogjcfkaaaGreat
open Go Go.RowKit
set_option maxRecDepth 100000
set_option maxHeartbeats 20000000
instance W45:∀ (p0:(List Int)) (p1:Q6),Ct (Q1a p0 p1) fun res=>Z2 Tryz.prog 0o00371 [(.slice 1 (List.map rI p0)),(.agg (W6 p1))] (fun d=>d=(eI res)):=
 au Tryz.func249 Q1a.eq_1 .z
instance X9s:∀ (n:Nat) (p0:ByteArray),Ct (Q71 n p0) fun res=>Z2 Tryz.prog 0o00461 [(eS p0)] (fun d=>d=(eB res)):=
 au Tryz.func305 Q71.eq_1 (.o (.o (.o (.i .z (.o (.i .z (.i .z (.w [] [] [0,3] [] (fun (s132:Int)=>[(3,eI s132)]) (fun s132=>[]) (fun s132=>.z) (fun s140=>.z)))))))))
instance Z7c:∀ (p0:(List Q6)) (p1:(Q6→Option Bool)) {p1_f:FuncId} {p1_c:List D} [p1_i:CF1 (fun a0=>(.agg (W6 a0))) (fun r=>(eB r)) p1 p1_f p1_c],Ct (Q2c p0 p1) fun res=>Z2 Tryz.prog 0o00264 [(.slice 2 (List.map W6 p0)),.clos p1_f p1_c] (fun d=>d=(eB res)):=
 au Tryz.func180 Q2c.eq_1 .z
instance X9n:∀ (n:Nat) (p0:Grow) (p1:Q0) (p2:(List Int)),Ct (Q1m n p0 p1 p2) fun res=>J4 Tryz.prog 0o00073 [] [(.agg (Q3j p0)),(.agg (Z0 p1)),(.slice 1 (List.map rI p2))] (fun H d=>H=[some ⟨6,List.map Z0 res.pats,0,0x0064⟩]∧d=.agg [(eI res.clause),.sl 6 0 res.pats.length,(.slice 2 (List.map Q7 res.binds))]):=
 au Tryz.func59 Q1m.eq_1 (.o (.b fun (p0:Grow)=>.o (.o (.w [3,4,6] [0,8,16] [2,3,4,6] [0,8,16] (fun (s42:(List Q1)×Q0)=>[]) (fun s42=>[(0,some ⟨3,[[(eI p0.clause),(.slice 6 (List.map Z0 p0.pats)),(.slice 2 (List.map Q7 s42.1))]],0,0x0066⟩),(8,some ⟨6,[(Z0 s42.2)],0,0x0064⟩)]) (fun s42=>.j 1 0 [2,3,4,6] [0,1,2] (fun (s56:Unit)=>[]) (fun _=>[]) .z (fun s56=>.g [2,3,4,6] [0,1,2] [] [] (.o (.o (.o (.d [0,1,3,4,5,2,6,7,8,9,10,11] [0,1] [25] (.i (.o (.pF 12 (.pF 27 .z))) (.o (.pF 12 (.pF 27 .z)))))))))) (fun s50=>.g [3,4,6] [0,1,2] [] [] (.o (.o (.dz [0,1,3,2,4,5,6,7] [0,1] [1048614] [40] .z))))))))
instance X3c:∀ (p0:(List Int)) (p1:(List Q3)) (p2:Q6) (p3:Int),Ct (Q0k p0 p1 p2 p3) fun res=>Z2 Tryz.prog 0o00322 [.cptr (List.map cI p0),(.slice 2 (List.map W8 p1)),(.agg (W6 p2)),(eI p3)] (fun d=>d=(eI res)):=
 au Tryz.func210 Q0k.eq_1 (.o (.o (.o (.o (.o (.ls 16 (.f [9] [] [0,9,16,17,18] [] (fun (k68:Nat) (s64:Int)=>[(9,eI s64),(18,eI (k68:Int))]) (fun k68 s64=>[]) (fun k68 s64=>.z) (fun s72=>.z))))))))
instance Z39:∀ (n:Nat) (p0:(List Q1)) (p1:Int) (p2:Int) (p3:Int) (p4:(Q1→Q1→Option Int)) {p4_f:FuncId} {p4_c:List D} [p4_i:CF2 (fun a0=>(.agg (Q7 a0))) (fun a1=>(.agg (Q7 a1))) (fun r=>(eI r)) p4 p4_f p4_c],Ct (Q0f n p0 p1 p2 p3 p4) fun res=>J4 Tryz.prog 0o00272 [⟨2,List.map Q7 p0,0,0x0095⟩] [.sl 2 0 p0.length,(eI p1),(eI p2),(eI p3),.clos p4_f p4_c] (fun H d=>H=[some ⟨2,List.map Q7 res,0,0x0095⟩]∧d=.tup []):=
 ar (au Tryz.func186 Q0f.eq_2 (.o (.o (.o (.o (.o (.o (.o (.o (.o (.o (.w [] [0] [0,1,2,3,4,10,11] [0] (fun (s10:Unit)=>[]) (fun s10=>[]) (fun s10=>.z) (fun s18=>.z)))))))))))))
instance W1x:∀ (p0:Int),Ct (Q60 p0) fun res=>Z2 Tryz.prog 0o00273 [(.val (.int .u64 p0))] (fun d=>d=(eI res)):=
 au Tryz.func187 Q60.eq_1 .z
instance X87:∀ (p0:Int) (p1:Int),Ct (Q3e p0 p1) fun res=>Z2 Tryz.prog 0o00143 [(eI p0),(eI p1)] (fun d=>d=(eI res)):=
 au Tryz.func99 Q3e.eq_1 .z
instance W3s:∀ (p0:Q2q) (p1:(List Q9)),Ct (Q3x p0 p1) fun res=>Z2 Tryz.prog 0o00354 [(.agg (Q6y p0)),(.slice 3 (List.map V4 p1))] (fun d=>d=(eB res)):=
 au Tryz.func236 Q3x.eq_1 (.o (.o (.i .z (.j 3 0 [1,2] [0] (fun (s23:Unit)=>[]) (fun _=>[]) .z (fun _=>.z)))))
instance W3l:∀ (n:Nat) (p0:V2) (p1:Q0) (p2:(List Int)),Ct (Q2r n p0 p1 p2) fun res=>Z2 Tryz.prog 0o00423 [(.agg (Q1e p0)),(.agg (Z0 p1)),(.slice 1 (List.map rI p2))] (fun d=>d=.tup [(.agg (Q1e res.1)),(.agg (Z0 res.2))]):=
 au Tryz.func275 Q2r.eq_1 (.o (.b fun (p0:V2)=>.o (.b fun (p2:(List Int))=>.w [2,3,4,6,7] [0,8,16,24] [2,3,4,6,7] [0,8,16,24] (fun (s16:(List Q1)×Q0)=>[]) (fun s16=>[(0,some ⟨3,[[(eI p0.clause),(.slice 6 (List.map Z0 p0.pats)),(.slice 2 (List.map Q7 s16.1))]],0,0x0142⟩),(8,some ⟨6,[(Z0 s16.2)],0,0x0064⟩)]) (fun s16=>.i (.g [2,3,4,6,7] [0,1,2,3] [] [] (.o (.o (.o (.dz [1,2,4,5,7,0,3,6,8,9,10,11,12,13] [0,1] [1048593] [23] (.o (.pF 2097168 (.pF 2097184 .z)))))))) .z) (fun s24=>.i (.g [2,3,4,6,7] [0,1,2,3] [] [] (.o (.o (.o (.dz [1,2,4,5,7,0,3,6,8,9,10,11,12,13] [0,1] [1048613] [43] (.pF 2097168 (.g [3,6,7] [0,2097184,2,3] [] [(1000000000,some ⟨3,[[(eI p0.clause),(.slice 6 (List.map Z0 p0.pats)),(.sl 2 2097184 ((s24.1++[(Q1.mk s24.2.var p2)])).length)]],0,0x0142⟩),(2097184,some ⟨2,(List.map Q7 (s24.1++[(Q1.mk s24.2.var p2)])),0,0x0095⟩)] (.o (.d [0,1,2,3] [0] [] .z))))))))) (.g [3,4,6,7] [0,1,2,3] [] [] (.d [0,1,2,3] [0,1] [] .z))))))
end Go.Proofs.YtfhpjeogjcfkaaaGreat
