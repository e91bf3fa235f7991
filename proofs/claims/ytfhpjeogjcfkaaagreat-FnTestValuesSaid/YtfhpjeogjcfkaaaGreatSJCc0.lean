import Derived.Test.YtfhpjeogjcfkaaaGreatSJMc0
import Derived.Test.YtfhpjeogjcfkaaaGreatSJC6a0
import Derived.Test.YtfhpjeogjcfkaaaGreatSJC6c0
import Derived.Test.YtfhpjeogjcfkaaaGreatSJC6b0
set_option linter.unusedSimpArgs false
set_option linter.unusedVariables false
namespace Go.Proofs.YtfhpjeogjcfkaaaGreat
open Go Go.RowKit
set_option maxRecDepth 100000
set_option maxHeartbeats 20000000
instance W0o:∀ (n:Nat) (p0:(List Q4)) (p1:Q1) (p2:Q3),Ct (Q48 n p0 p1 p2) fun res=>Q6 Tryz.prog 0o00050 [(.slice 2 (List.map Z8 p0)),(.agg (Z2 p1)),(.agg (Z5 p2))] (fun d=>d=(eB res)):=
 au Tryz.func40 Q48.eq_1 .z
instance Z2b:∀ (n:Nat) (p0:(List Int)),Ct (Q21 n p0) fun res=>Q6 Tryz.prog 0o00011 [(.slice 1 (List.map (rK .u8) p0))] (fun d=>d=(eB res)):=
 au Tryz.func9 Q21.eq_1 (.o (.o (.i .z (.o (.o (.o (.i .z (.i .z (.i .z (.ls 29 (.f [3,4,5,6] [80] [3,4,5,6,8,10] [80] (fun (k235:Nat) (s231:Unit)=>[(10,eI (k235:Int))]) (fun k235 s231=>[]) (fun k235 s231=>.o (.g [3,4,5,6,8,10] [0] [] [] (.o (.o (.i (.d [0,1,2,3,4,5,6,7,8,9,10,11,12,13,14,15,16,17,18,19] [] [] .z) (.o (.d [0,1,2,3,4,5,6,7,8,9,10,11,12,13,14,15,16,17,18,19] [0] [] .z))))))) (fun s239=>.o (.ls 5 (.f [5,6] [] [3,4,5,6,11,12] [0] (fun (k399:Nat) (s395:Unit)=>[(12,eI (k399:Int))]) (fun k399 s395=>[]) (fun k399 s395=>.o (.j 17 0 [3,4,5,6,11,12] [0] (fun (s413:Unit)=>[]) (fun _=>[]) .z (fun _=>.z))) (fun s403=>.z)))))))))))))))
theorem Z2i (n:Nat)(p0:(List Int)):∀ res,Q21 n p0=some res→Q6 Tryz.prog 0o00011 [(.slice 1 (List.map (rK .u8) p0))] (fun d=>d=(eB res)):=(Z2b n p0).pf
end Go.Proofs.YtfhpjeogjcfkaaaGreat
