import Derived.Test.YtenmmbjgnlflnaaGreatJMc0
import Derived.Test.YtenmmbjgnlflnaaGreatJC6a0
import Derived.Test.YtenmmbjgnlflnaaGreatJC6b0
set_option linter.unusedSimpArgs false
set_option linter.unusedVariables false
namespace Go.Proofs.YtenmmbjgnlflnaaGreat
open Go Go.RowKit
set_option maxRecDepth 100000
set_option maxHeartbeats 20000000
instance X0f:∀ (n:Nat) (p0:(List Int)),Ct (Q16 n p0) fun res=>Q6 Tryz.prog 0o00025 [(.slice 1 (List.map (rK .u8) p0))] (fun d=>d=.tup [(.slice 2 (List.map Z5 res.1)),(.slice 6 (List.map J1 res.2.1)),(eI res.2.2.1),(.agg (Z2 res.2.2.2.1)),(eI res.2.2.2.2)]):=
 au Tryz.func21 Q16.eq_1 .z
instance X6a:∀ (n:Nat) (p0:(List Q2)) (p1:(List GFun)) (p2:Int) (p3:Q0) (p4:Int),Ct (Q1r n p0 p1 p2 p3 p4) fun res=>Q6 Tryz.prog 0o00026 [(.slice 2 (List.map Z5 p0)),(.slice 6 (List.map J1 p1)),(eI p2),(.agg (Z2 p3)),(eI p4)] (fun d=>d=.tup [(eI res.1),(eI res.2)]):=
 au Tryz.func22 Q1r.eq_1 (.o (.o (.o (.o (.o (.o (.o (.i .z (.o (.o (.g [12] [105] [] [] (.d [0,1,2,3,4,5,6,7,8,9] [0] [] .z))))))))))))
instance X5z:∀ (n:Nat) (p0:(List Q2)) (p1:(List GFun)) (p2:Int) (p3:Q0) (p4:Int),Ct (Q2u n p0 p1 p2 p3 p4) fun res=>Q6 Tryz.prog 0o00027 [(.slice 2 (List.map Z5 p0)),(.slice 6 (List.map J1 p1)),(eI p2),(.agg (Z2 p3)),(eI p4)] (fun d=>d=.tup [(eI res.1),(eI res.2)]):=
 au Tryz.func23 Q2u.eq_1 (.o (.o (.o (.o (.o (.o (.o (.i .z (.o (.g [12] [160] [] [] (.d [0,1,2,3,4,5] [0] [] .z)))))))))))
instance Z0o:∀ (n:Nat) (p0:(List Int)),Ct (Q0w n p0) fun res=>Q6 Tryz.prog 0o00005 [(.slice 1 (List.map (rK .u8) p0))] (fun d=>d=(eB res)):=
 au Tryz.func5 Q0w.eq_1 .z
theorem Z0v (n:Nat)(p0:(List Int)):∀ res,Q0w n p0=some res→Q6 Tryz.prog 0o00005 [(.slice 1 (List.map (rK .u8) p0))] (fun d=>d=(eB res)):=(Z0o n p0).pf
end Go.Proofs.YtenmmbjgnlflnaaGreat
