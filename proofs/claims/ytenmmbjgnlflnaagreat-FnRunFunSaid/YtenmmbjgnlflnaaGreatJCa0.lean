import Derived.Test.YtenmmbjgnlflnaaGreatJMa0
import Derived.Test.YtenmmbjgnlflnaaGreatJC6a0
import Derived.Test.YtenmmbjgnlflnaaGreatJC6b0
set_option linter.unusedSimpArgs false
set_option linter.unusedVariables false
namespace Go.Proofs.YtenmmbjgnlflnaaGreat
open Go Go.RowKit
set_option maxRecDepth 100000
set_option maxHeartbeats 20000000
instance X68:∀ (n:Nat) (p0:(List Q2)) (p1:Q3) (p2:Q0),Ct (Q4a n p0 p1 p2) fun res=>Q6 Tryz.prog 0o00032 [(.slice 2 (List.map Z5 p0)),(.agg (Z6 p1)),(.agg (Z2 p2))] (fun d=>d=(eB res)):=
 au Tryz.func26 Q4a.eq_1 .z
instance Z59:∀ (n:Nat) (p0:(List Int)),Ct (Q2v n p0) fun res=>Q6 Tryz.prog 0o00007 [(.slice 1 (List.map (rK .u8) p0))] (fun d=>d=(eB res)):=
 au Tryz.func7 Q2v.eq_1 (.o (.o (.i .z (.o (.o (.o (.i .z (.o (.i .z (.i .z (.g [3,4,5,8] [216] [] [] (.o (.o (.d [0,1,2,3,4,5,6,7,8,9] [0] [] .z))))))))))))))
theorem Z66 (n:Nat)(p0:(List Int)):∀ res,Q2v n p0=some res→Q6 Tryz.prog 0o00007 [(.slice 1 (List.map (rK .u8) p0))] (fun d=>d=(eB res)):=(Z59 n p0).pf
end Go.Proofs.YtenmmbjgnlflnaaGreat
