import Derived.Test.YtenmmbjgnlflnaaGreatBJMa0
import Derived.Test.YtenmmbjgnlflnaaGreatBJC6a0
import Derived.Test.YtenmmbjgnlflnaaGreatBJC4a0
import Derived.Test.YtenmmbjgnlflnaaGreatBJC6b0
import Derived.Test.YtenmmbjgnlflnaaGreatBJC6c0
set_option linter.unusedSimpArgs false
set_option linter.unusedVariables false
namespace Go.Proofs.YtenmmbjgnlflnaaGreat
open Go Go.RowKit
set_option maxRecDepth 100000
set_option maxHeartbeats 20000000
instance W8o:∀ (n:Nat) (p0:(List Q4)) (p1:(List GFun)) (p2:Int) (p3:Q1) (p4:Int),Ct (Q6i n p0 p1 p2 p3 p4) fun res=>Q7 Tryz.prog 0o00076 [(.slice 2 (List.map Z8 p0)),(.slice 6 (List.map Q0d p1)),(eI p2),(.agg (X0 p3)),(eI p4)] (fun d=>d=(eB res)):=
 au Tryz.func62 Q6i.eq_1 (.o (.o (.o (.o (.o (.o (.g [0,1,2,4,8] [0] [] [] (.o (.i (.i (.i (.i (.i (.o (.o (.d [0,1,2,3,4,5,6,7,8,9,10,11,12,13,14,15,16,17,18,19,20,21,22,23,24,25,26,27,28,29,30,31,32] [0] [] .z))) (.d [0,1,2,3,4,5,6,7,8,9,10,11,12,13,14,15,16,17,18,19,20,21,22,23,24,25,26,27,28,29,30,31,32] [] [] .z)) (.d [0,1,2,3,4,5,6,7,8,9,10,11,12,13,14,15,16,17,18,19,20,21,22,23,24,25,26,27,28,29,30,31,32] [] [] .z)) (.d [0,1,2,3,4,5,6,7,8,9,10,11,12,13,14,15,16,17,18,19,20,21,22,23,24,25,26,27,28,29,30,31,32] [] [] .z)) (.d [0,1,2,3,4,5,6,7,8,9,10,11,12,13,14,15,16,17,18,19,20,21,22,23,24,25,26,27,28,29,30,31,32] [] [] .z)) (.d [0,1,2,3,4,5,6,7,8,9,10,11,12,13,14,15,16,17,18,19,20,21,22,23,24,25,26,27,28,29,30,31,32] [] [] .z))))))))))
instance V3s:∀ (n:Nat) (p0:(List Q4)) (p1:(List GFun)) (p2:Int) (p3:Q1) (p4:Int),Ct (Q8h n p0 p1 p2 p3 p4) fun res=>Q7 Tryz.prog 0o00030 [(.slice 2 (List.map Z8 p0)),(.slice 6 (List.map Q0d p1)),(eI p2),(.agg (X0 p3)),(eI p4)] (fun d=>d=.tup [(.agg (X0 res.1)),(eI res.2)]):=
 au Tryz.func24 Q8h.eq_1 .z
instance Z7c:∀ (n:Nat) (p0:(List Int)),Ct (Q3o n p0) fun res=>Q7 Tryz.prog 0o00010 [(.slice 1 (List.map (rK .u8) p0))] (fun d=>d=(eB res)):=
 au Tryz.func8 Q3o.eq_1 (.o (.o (.i .z (.b fun (r3:((List Q4)×(List GFun)×Int×Q1×Int))=>.o (.o (.i .z (.o (.i .z (.i .z (.g [3,4,5,6,7,8,9] [96,216] [] [] (.o (.b fun (r77:(Z1×Bool))=>.dz [0,1,2,3,4,5,6,7,8,9,10,11,12,13,14] [0] [1048588] [] (.g [3,4,5,7,8,9,13,14] [1,2097200,2097184] [] [(2097184,some ⟨4,(List.map V8 [r77.1]),0,0x0037⟩),(1002097200,some ⟨4,[[(eI 5),(eI r3.2.2.1),(eI 0),(.sl 4 2097184 ([r77.1]).length)]],0,0x0037⟩)] (.o (.dz [0,1,2,3,4,5,6,7,8,9,10,11,12,13,14,15,16] [1] [1048591] [] .z)))))))))))))))
theorem Z7w (n:Nat)(p0:(List Int)):∀ res,Q3o n p0=some res→Q7 Tryz.prog 0o00010 [(.slice 1 (List.map (rK .u8) p0))] (fun d=>d=(eB res)):=(Z7c n p0).pf
end Go.Proofs.YtenmmbjgnlflnaaGreat
