import Derived.Test.YtfhpjeogjcfkaaaGreatSJMb0
import Derived.Test.YtfhpjeogjcfkaaaGreatSJC6b0
import Derived.Test.YtfhpjeogjcfkaaaGreatSJC6c0
import Derived.Test.YtfhpjeogjcfkaaaGreatSJC6a0
set_option linter.unusedSimpArgs false
set_option linter.unusedVariables false
namespace Go.Proofs.YtfhpjeogjcfkaaaGreat
open Go Go.RowKit
set_option maxRecDepth 100000
set_option maxHeartbeats 20000000
instance Z07:∀ (n:Nat) (p0:(List Int)),Ct (Q0x n p0) fun res=>Q6 Tryz.prog 0o00010 [(.slice 1 (List.map (rK .u8) p0))] (fun d=>d=(eB res)):=
 au Tryz.func8 Q0x.eq_1 (.o (.o (.i .z (.o (.o (.o (.i .z (.i .z (.i .z (.ls 29 (.f [] [] [3,4,5,6,10,11] [80] (fun (k501:Nat) (s497:Int)=>[(10,eI s497),(11,eI (k501:Int))]) (fun k501 s497=>[]) (fun k501 s497=>.o (.g [3,4,5,6,10,11] [0] [] [] (.o (.d [0,1,2,3,4,5,6,7,8,9,10,11,12,13,14] [0] [] (.j 13 0 [3,4,5,6,11,12] [0] (fun (s568:Unit)=>[]) (fun _=>[]) .z (fun _=>.z)))))) (fun s505=>.z))))))))))))
theorem Z09 (n:Nat)(p0:(List Int)):∀ res,Q0x n p0=some res→Q6 Tryz.prog 0o00010 [(.slice 1 (List.map (rK .u8) p0))] (fun d=>d=(eB res)):=(Z07 n p0).pf
end Go.Proofs.YtfhpjeogjcfkaaaGreat
