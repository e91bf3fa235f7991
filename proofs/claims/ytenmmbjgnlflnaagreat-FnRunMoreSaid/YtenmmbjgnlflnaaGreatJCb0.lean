import Derived.Test.YtenmmbjgnlflnaaGreatJMb0
import Derived.Test.YtenmmbjgnlflnaaGreatJC6a0
import Derived.Test.YtenmmbjgnlflnaaGreatJC6b0
set_option linter.unusedSimpArgs false
set_option linter.unusedVariables false
namespace Go.Proofs.YtenmmbjgnlflnaaGreat
open Go Go.RowKit
set_option maxRecDepth 100000
set_option maxHeartbeats 20000000
instance Z3n:∀ (n:Nat) (p0:(List Int)),Ct (Q26 n p0) fun res=>Q6 Tryz.prog 0o00006 [(.slice 1 (List.map (rK .u8) p0))] (fun d=>d=(eB res)):=
 au Tryz.func6 Q26.eq_1 .z
theorem Z3w (n:Nat)(p0:(List Int)):∀ res,Q26 n p0=some res→Q6 Tryz.prog 0o00006 [(.slice 1 (List.map (rK .u8) p0))] (fun d=>d=(eB res)):=(Z3n n p0).pf
end Go.Proofs.YtenmmbjgnlflnaaGreat
