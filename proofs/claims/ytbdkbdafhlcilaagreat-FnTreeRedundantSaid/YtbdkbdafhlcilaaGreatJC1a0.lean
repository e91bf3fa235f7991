import Derived.Test.YtbdkbdafhlcilaaGreatJC0d0
import Derived.Test.YtbdkbdafhlcilaaGreatJC0a0
import Derived.Test.YtbdkbdafhlcilaaGreatJC0b0
import Derived.Test.YtbdkbdafhlcilaaGreatJC0c0
set_option linter.unusedSimpArgs false
set_option linter.unusedVariables false
namespace Go.Proofs.YtbdkbdafhlcilaaGreat
open Go Go.RowKit
set_option maxRecDepth 100000
set_option maxHeartbeats 20000000
instance V4t:∀ (p0:Int),Ct (Q74 p0) fun res=>Z1 Tryz.prog 0o00446 [(eI p0)] (fun d=>d=(eB res)):=
 au Tryz.func294 Q74.eq_1 .z
instance V2s:∀ (p0:(List Q3)) (p1:Q2),Ct (Q7n p0 p1) fun res=>Z1 Tryz.prog 0o00251 [(.slice 2 (List.map V0 p0)),(.agg (X9 p1))] (fun d=>d=(eB res)):=
 au Tryz.func169 Q7n.eq_1 .z
instance X01:∀ (n:Nat) (p0:(List Q0)) (p1:(Q0→Option Bool)) {p1_f:FuncId} {p1_c:List D} [p1_i:CF1 (fun a0=>(.agg (Q1 a0))) (fun r=>(eB r)) p1 p1_f p1_c],Ct (Q08 n p0 p1) fun res=>Q05 Tryz.prog 0o00364 [⟨6,List.map Q1 p0,0,0x0064⟩] [.sl 6 0 p0.length,.clos p1_f p1_c] (fun H d=>H=[none,some ⟨6,List.map Q1 res,0,0x0064⟩]∧d=.sl 6 1 res.length):=
 au Tryz.func244 Q08.eq_1 (.o (.o (.o (.o (.o (.o (.o (.i (.pM 4 .z) (.w [0,5] [0] [0,1,5,6] [0] (fun (s96:(List Q0)×Int×Int)=>[(0,.sl 6 0 (s96.1).length),(5,eI s96.2.1),(6,eI s96.2.2)]) (fun s96=>[(0,some ⟨6,(List.map Q1 s96.1),0,0x0064⟩)]) (fun s96=>.i (.j 7 0 [0,1,5,6] [0] (fun (s112:(List Q0)×Int)=>[(0,.sl 6 0 (s112.1).length),(5,eI s112.2)]) (fun s112=>[(0,some ⟨6,(List.map Q1 s112.1),0,0x0064⟩)]) .z (fun _=>.z)) .z) (fun s104=>.o (.pM 4 .z)))))))))))
instance W1q:∀ (n:Nat) (p0:Q24) (p1:Q2) (p2:Q0) (p3:Q0),Ct (Y0 n p0 p1 p2 p3) fun res=>Z1 Tryz.prog 0o00242 [.cptr (Q2s p0),(.agg (X9 p1)),(.agg (Q1 p2)),(.agg (Q1 p3))] (fun d=>d=.tup [(.agg (Q1 res.1)),(eB res.2)]):=
 ar (au Tryz.func162 Y0.eq_2 (.o (.o (.o (.o (.b fun (p2:Q0)=>.o (.i .z (.i .z (.i .z (.i .z (.g [0,5,6,7,8,11] [0,8,16,24,208] [] [] (.o (.d [0,1,2,3,4,5,6,9,7,8] [0,1] [] (.pC 4 5 6 0x0064 (.ls 66 (.f [8,11] [3,4,13] [0,6,7,8,11,66,67,68] [1,2,3,4,13] (fun (k114:Nat) (s110:(List Q0))=>[(68,eI (k114:Int))]) (fun k114 s110=>[(1000000004,some ⟨6,[[(eI 4),(eI p2.ctor),(eI 0),(eI 0),(eI 0),(.sl 6 13 (s110).length)]],0,0x0064⟩),(13,some ⟨6,(List.map Q1 s110),0,0x0064⟩)]) (fun k114 s110=>.o (.g [0,6,7,8,11,12,13,66,67,68] [0,1,2,3,4,37] [] [(1000000003,some ⟨6,[[(eI 4),(eI p2.ctor),(eI 0),(eI 0),(eI 0),(.sl 6 4 (s110).length)]],0,0x0064⟩)] (.o (.o (.o (.dz [0,1,2,3,4,5,6,7,8,9,10,11,12,13,14,15,16,17,18] [0,1,5] [1048590] [] .z)))))) (fun s118=>.z)))))))))))))))))
instance X9h:∀ (p0:Q24) (p1:Q2) (p2:Int),Ct (Q3g p0 p1 p2) fun res=>Z1 Tryz.prog 0o00367 [.cptr (Q2s p0),(.agg (X9 p1)),(eI p2)] (fun d=>d=(.agg (Q1 res))):=
 au Tryz.func247 Q3g.eq_1 (.o (.o (.b fun (p2:Int)=>.g [0,2,4,6,7] [0,8,32] [] [] (.o (.d [0,1,2,3,4,5,8,6,7] [0] [] (.pC 2 5 6 0x0064 (.ls 16 (.f [6,7] [1,2,11] [6,7,17,18] [1,2,11] (fun (k50:Nat) (s46:(List Q0))=>[(18,eI (k50:Int))]) (fun k50 s46=>[(1000000002,some ⟨6,[[(eI 4),(eI p2),(eI 0),(eI 0),(eI 0),(.sl 6 11 (s46).length)]],0,0x0064⟩),(11,some ⟨6,(List.map Q1 s46),0,0x0064⟩)]) (fun k50 s46=>.o (.g [6,7,17,18] [0,1,2] [] [(1000000001,some ⟨6,[[(eI 4),(eI p2),(eI 0),(eI 0),(eI 0),(.sl 6 2 (s46).length)]],0,0x0064⟩)] (.o (.o (.d [0,1,2,3,4,5,6] [1] [25] .z))))) (fun s54=>.z)))))))))
instance W1u:∀ (n:Nat) (p0:Q0) (p1:Q0),Ct (Q2v n p0 p1) fun res=>Z1 Tryz.prog 0o00142 [(.agg (Q1 p0)),(.agg (Q1 p1))] (fun d=>d=(eB res)):=
 ar (au Tryz.func98 Q2v.eq_2 .z)
instance W59:∀ (p0:Z4) (p1:(List Int)),Ct (X8 p0 p1) fun res=>Q05 Tryz.prog 0o00104 [⟨2,[(J2 p0)],0,0x009a⟩] [.ptr 2 0 0 0,(.slice 1 (List.map rI p1))] (fun H d=>H=[some ⟨2,[(J2 res.2)],0,0x009a⟩]∧d=(eI res.1)):=
 au Tryz.func68 X8.eq_1 .z
instance W7z:∀ (p0:Int),Ct (Q7m p0) fun res=>Z1 Tryz.prog 0o00354 [(.val (.int .u64 p0))] (fun d=>d=(eI res)):=
 au Tryz.func236 Q7m.eq_1 .z
instance W46:∀ (p0:Int) (p1:Int),Ct (Q4r p0 p1) fun res=>Z1 Tryz.prog 0o00275 [(eI p0),(eI p1)] (fun d=>d=(eI res)):=
 au Tryz.func189 Q4r.eq_1 .z
instance V0k:∀ (p0:Int) (p1:Int) (p2:Int) (p3:Q4),Ct (Q83 p0 p1 p2 p3) fun res=>Z1 Tryz.prog 0o00221 [(eI p0),(eI p1),(eI p2),(.agg (Q07 p3))] (fun d=>d=(eB res)):=
 au Tryz.func145 Q83.eq_1 .z
instance V4u:∀ (n:Nat) (p0:(List Q7)) (p1:Q4),Ct (Q75 n p0 p1) fun res=>Z1 Tryz.prog 0o00222 [(.slice 2 (List.map Z8 p0)),(.agg (Q07 p1))] (fun d=>d=(.slice 4 (List.map Q87 res))):=
 au Tryz.func146 Q75.eq_1 (.o (.o (.o (.pN 5 4 0x0097 (.ls 0 (.f [5] [48] [3,5,8,9,10] [0,48] (fun (k66:Nat) (s62:(List Y3))=>[(5,.sl 4 48 (s62).length),(10,eI (k66:Int))]) (fun k66 s62=>[(48,some ⟨4,(List.map Q87 s62),0,0x0097⟩)]) (fun k66 s62=>.o (.g [3,5,7,8,9,10] [0,1,26] [] [] (.o (.o (.o (.d [0,1,2,3,4,5,6,7,8,9,10,11] [0,2] [] .z)))))) (fun s70=>.z)))))))
end Go.Proofs.YtbdkbdafhlcilaaGreat
