import Derived.Test.YtfhpjeogjcfkaaaGreatSJMa0
import Derived.Test.YtfhpjeogjcfkaaaGreatSJC6b0
import Derived.Test.YtfhpjeogjcfkaaaGreatSJC6a0
import Derived.Test.YtfhpjeogjcfkaaaGreatSJC6c0
set_option linter.unusedSimpArgs false
set_option linter.unusedVariables false
namespace Go.Proofs.YtfhpjeogjcfkaaaGreat
open Go Go.RowKit
set_option maxRecDepth 100000
set_option maxHeartbeats 20000000
instance X6k:∀ (n:Nat) (p0:(List Q4)) (p1:Q1) (p2:(List Q5)) (p3:Int),Ct (Q2w n p0 p1 p2 p3) fun res=>Q6 Tryz.prog 0o00041 [(.slice 2 (List.map Z8 p0)),(.agg (Z2 p1)),(.slice 9 (List.map X4 p2)),(eI p3)] (fun d=>d=.tup [(.agg (Z5 res.1)),(eB res.2)]):=
 au Tryz.func33 Q2w.eq_1 .z
instance X1a:∀ (n:Nat) (p0:(List Q4)) (p1:Q1) (p2:(List Q5)),Ct (Q0p n p0 p1 p2) fun res=>Q6 Tryz.prog 0o00043 [(.slice 2 (List.map Z8 p0)),(.agg (Z2 p1)),(.slice 9 (List.map X4 p2))] (fun d=>d=.tup [(.slice 1 (List.map rI res.1)),(eB res.2)]):=
 au Tryz.func35 Q0p.eq_1 (.o (.o (.o (.o (.o (.i .z (.pN 8 1 0x0003 (.ls 2 (.f [8] [96] [0,2,4,8,18,19] [0,96] (fun (k97:Nat) (s93:(List Int))=>[(8,.sl 1 96 (s93).length),(19,eI (k97:Int))]) (fun k97 s93=>[(96,some ⟨1,(List.map rI s93),0,0x0003⟩)]) (fun k97 s93=>.o (.j 6 0 [0,2,4,8,18,19] [0,1] (fun (s107:(List Int))=>[(8,.sl 1 1 (s107).length)]) (fun s107=>[(1,some ⟨1,(List.map rI s107),0,0x0003⟩)]) .z (fun _=>.z))) (fun s101=>.z))))))))))
instance Z7t:∀ (n:Nat) (p0:(List Int)),Ct (V8 n p0) fun res=>Q6 Tryz.prog 0o00066 [(.slice 1 (List.map (rK .u8) p0))] (fun d=>d=.tup [(.slice 2 (List.map Z8 res.1)),(.agg (Z2 res.2.1)),(.slice 9 (List.map X4 res.2.2))]):=
 au Tryz.func54 V8.eq_1 (.o (.o (.o (.o (.j 3 0 [3,6,7,8] [8,96,57] (fun (s20:(List Q5))=>[(8,.sl 9 57 (s20).length)]) (fun s20=>[(57,some ⟨9,(List.map X4 s20),0,0x00a1⟩)]) .z (fun _=>.g [3,6,7,8] [0,1,2] [] [] (.d [0,1,2,3,4,5] [1] [] .z)))))))
instance X16:∀ (n:Nat) (p0:(List Int)),Ct (Q2j n p0) fun res=>Q6 Tryz.prog 0o00037 [(.slice 1 (List.map (rK .u8) p0))] (fun d=>d=.tup [(.slice 2 (List.map Z8 res.1)),(.agg (Z2 res.2.1)),(.slice 9 (List.map X4 res.2.2.1)),(eI res.2.2.2)]):=
 au Tryz.func31 Q2j.eq_1 (.o (.o (.o (.g [0,3,6,7,8] [8,80] [] [] (.o (.o (.dz [0,1,2,3,4,5,6,7,8,9,10] [1] [1048596] [] .z)))))))
instance Z0v:∀ (n:Nat) (p0:(List Int)),Ct (Q1b n p0) fun res=>Q6 Tryz.prog 0o00007 [(.slice 1 (List.map (rK .u8) p0))] (fun d=>d=(eB res)):=
 au Tryz.func7 Q1b.eq_1 .z
theorem Z16 (n:Nat)(p0:(List Int)):∀ res,Q1b n p0=some res→Q6 Tryz.prog 0o00007 [(.slice 1 (List.map (rK .u8) p0))] (fun d=>d=(eB res)):=(Z0v n p0).pf
end Go.Proofs.YtfhpjeogjcfkaaaGreat
