import Derived.Test.YtfhpjeogjcfkaaaGreatSJC1d0
import Derived.Test.YtfhpjeogjcfkaaaGreatSJC1b0
import Derived.Test.YtfhpjeogjcfkaaaGreatSJC1c0
import Derived.Test.YtfhpjeogjcfkaaaGreatSJC1a0
set_option linter.unusedSimpArgs false
set_option linter.unusedVariables false
namespace Go.Proofs.YtfhpjeogjcfkaaaGreat
open Go Go.RowKit
set_option maxRecDepth 100000
set_option maxHeartbeats 20000000
instance W4s:∀ (n:Nat) (p0:(List Q4)),Ct (Q5f n p0) fun res=>Q6 Tryz.prog 0o00200 [(.slice 2 (List.map Z8 p0))] (fun d=>d=.cptr (List.map cI res)):=
 au Tryz.func128 Q5f.eq_1 (.o (.o (.w [3] [16] [0,3,4] [16] (fun (s26777:(List Int)×Bool)=>[(4,eB s26777.2)]) (fun s26777=>[(16,some ⟨16,[(List.map cI s26777.1)],0,0x0107⟩)]) (fun s26777=>.i (.ls 0 (.f [0,3,4] [0] [0,3,4,15,16] [0] (fun (k30356:Nat) (s30352:(List Int)×Bool)=>[(4,eB s30352.2),(16,eI (k30356:Int))]) (fun k30356 s30352=>[(0,some ⟨16,[(List.map cI s30352.1)],0,0x0107⟩)]) (fun k30356 s30352=>.o (.w [0,3,4,15,16] [0] [0,3,4,5,6,15,16] [0] (fun (s31838:(List Int)×Bool×Int)=>[(4,eB s31838.2.1),(6,eI s31838.2.2)]) (fun s31838=>[(0,some ⟨16,[(List.map cI s31838.1)],0,0x0107⟩)]) (fun s31838=>.i (.o (.ls 28 (.f [0,3,4,5,6,15,16] [0] [0,3,4,5,6,7,15,16,28,29,30] [0,41] (fun (k32093:Nat) (s32089:(List Int)×Bool)=>[(4,eB s32089.2),(30,eI (k32093:Int))]) (fun k32093 s32089=>[(0,some ⟨16,[(List.map cI s32089.1)],0,0x0107⟩)]) (fun k32093 s32089=>.o (.j 14 0 [0,3,4,5,6,7,15,16,28,29,30] [0,1] (fun (s32117:(List Int)×Bool)=>[(4,eB s32117.2)]) (fun s32117=>[(0,some ⟨16,[(List.map cI s32117.1)],0,0x0107⟩)]) .z (fun _=>.z))) (fun s32097=>.z)))) .z) (fun s31846=>.z))) (fun s30360=>.z))) .z) (fun s26785=>.z))))
instance W26:∀ (p0:X3) (p1:X3),Ct (Q1r p0 p1) fun res=>Q6 Tryz.prog 0o00315 [(.agg (Q11 p0)),(.agg (Q11 p1))] (fun d=>d=(eI res)):=
 au Tryz.func205 Q1r.eq_1 .z
instance W69:∀ (n:Nat) (p0:(List Q4)) (p1:Q1) (p2:Q0),Ct (Q2l n p0 p1 p2) fun res=>Q6 Tryz.prog 0o00451 [(.slice 2 (List.map Z8 p0)),(.agg (Z2 p1)),(.agg (Q2 p2))] (fun d=>d=(.slice 2 (List.map Z2 res))):=
 au Tryz.func297 Q2l.eq_1 (.o (.o (.o (.o (.i .z (.w [7] [48] [4,5,7,8] [0,8,48] (fun (s52:(List Q1)×Int)=>[(7,.sl 2 48 (s52.1).length),(8,eI s52.2)]) (fun s52=>[(48,some ⟨2,(List.map Z2 s52.1),0,0x0019⟩)]) (fun s52=>.z) (fun s60=>.z)))))))
instance W8s:∀ (n:Nat) (p0:Int) (p1:Q7e),Ct (Q9r n p0 p1) fun res=>Q6 Tryz.prog 0o00442 [(eI p0),(.agg (Q6j p1))] (fun d=>d=(eB res)):=
 au Tryz.func290 Q9r.eq_1 (.o (.o (.o (.o (.i .z (.i .z (.i .z (.i .z (.ls 12 (.f [] [] [0,3,5] [0] (fun (k82:Nat) (s78:Unit)=>[(5,eI (k82:Int))]) (fun k82 s78=>[]) (fun k82 s78=>.z) (fun s86=>.z)))))))))))
instance W63:∀ (n:Nat) (p0:Q0),Ct (Q3p n p0) fun res=>Q6 Tryz.prog 0o00356 [(.agg (Q2 p0))] (fun d=>d=(.slice 6 (List.map Q2 res))):=
 au Tryz.func238 Q3p.eq_1 .z
instance W85:∀ (n:Nat) (p0:(List Q4)) (p1:(List Int)) (p2:Q1) (p3:Q0),Ct (Q13 n p0 p1 p2 p3) fun res=>Q6 Tryz.prog 0o00457 [(.slice 2 (List.map Z8 p0)),(.slice 1 (List.map rI p1)),(.agg (Z2 p2)),(.agg (Q2 p3))] (fun d=>d=(eB res)):=
 ar (au Tryz.func303 Q13.eq_2 (.o (.o (.o (.o (.o (.o (.j 2 0 [0,1,6,7,12,13] [0,8] (fun (s24:Bool)=>[(13,eB s24)]) (fun _=>[]) .z (fun s24=>.i .z (.i .z (.i (.g [0,1,6,7] [0,1] [] [] (.o (.o (.i (.d [0,1,2,3,4,5,6,7,8,9,10,11,12,13,14,15,16,17,18] [0,1] [] .z) (.o (.o (.d [0,1,2,3,4,5,6,7,8,9,10,11,12,13,14,15,16,17,18] [0,1] [] .z))))))) (.i (.g [0,1,6,7] [0,1] [] [] (.o (.o (.d [0,1,2,3,4,5,6,7,8] [0,1] [] .z)))) (.o (.ls 56 (.f [] [] [0,1,7,9,10] [1] (fun (k109:Nat) (s105:Unit)=>[(10,eI (k109:Int))]) (fun k109 s105=>[]) (fun k109 s105=>.o (.g [0,1,7,9,10] [0] [] [] (.o (.o (.d [0,1,2,3,4,5,6,7,8,9,10,11,12] [0] [] .z))))) (fun s113=>.z))))))))))))))))
instance W8g:∀ (n:Nat) (p0:Z0) (p1:(List Q4)) (p2:Q1) (p3:Int),Ct (Q15 n p0 p1 p2 p3) fun res=>Q19 Tryz.prog 0o00533 [⟨2,[(Y7 p0)],0,0x00d7⟩] [.ptr 2 0 0 0,(.slice 2 (List.map Z8 p1)),(.agg (Z2 p2)),(eI p3)] (fun H d=>H=[some ⟨2,[(Y7 res.2)],0,0x00d7⟩]∧d=(.agg (Q2 res.1))):=
 ar (au Tryz.func347 Q15.eq_2 (.o (.o (.o (.o (.o (.o (.i .z (.o (.i .z (.o (.i (.g [0,1,3,6,8] [0,1,9] [] [] (.o (.o (.d [0,1,2,3,4,6,7,8,9,10,5,11,12,13,14] [1] [] (.pF 19 .z))))) (.i .z (.o (.i .z (.o (.b fun (x37:Int)=>.o (.pC 241 5 6 0x0064 (.ls 74 (.f [8,11] [0,9,241,313] [0,1,3,8,11,12,13] [0,9,241,313] (fun (k96:Nat) (s92:Z0×(List Q0))=>[(13,eI (k96:Int))]) (fun k96 s92=>[(0,some ⟨2,[(Y7 s92.1)],0,0x00d7⟩),(1000000241,some ⟨6,[[(eI 4),(eI x37),(eI 0),(eI 0),(eI 0),(.sl 6 313 (s92.2).length)]],0,0x0064⟩),(313,some ⟨6,(List.map Q2 s92.2),0,0x0064⟩)]) (fun k96 s92=>.o (.g [0,1,3,8,11,12,13] [0,1,2,3] [] [(1000000002,some ⟨6,[[(eI 4),(eI x37),(eI 0),(eI 0),(eI 0),(.sl 6 3 (s92.2).length)]],0,0x0064⟩)] (.o (.o (.d [0,1,2,3,4,5,6,7,8,9,10,11,12,13,14] [2] [94] .z))))) (fun s100=>.pF 3 .z)))))))))))))))))))))
end Go.Proofs.YtfhpjeogjcfkaaaGreat
