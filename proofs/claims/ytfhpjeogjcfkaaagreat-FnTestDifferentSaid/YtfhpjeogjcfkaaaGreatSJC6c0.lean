import Derived.Test.YtfhpjeogjcfkaaaGreatSJC5a0
import Derived.Test.YtfhpjeogjcfkaaaGreatSJC5b0
set_option linter.unusedSimpArgs false
set_option linter.unusedVariables false
namespace Go.Proofs.YtfhpjeogjcfkaaaGreat
open Go Go.RowKit
set_option maxRecDepth 100000
set_option maxHeartbeats 20000000
instance W89:∀ (n:Nat) (p0:Z0) (p1:(List Q4)) (p2:Q1),Ct (Q4i n p0 p1 p2) fun res=>Q19 Tryz.prog 0o00270 [⟨2,[(Y7 p0)],0,0x00d7⟩] [.ptr 2 0 0 0,(.slice 2 (List.map Z8 p1)),(.agg (Z2 p2))] (fun H d=>H=[some ⟨2,[(Y7 res.2)],0,0x00d7⟩,some ⟨9,List.map X4 res.1,0,0x00a1⟩]∧d=.sl 9 1 res.1.length):=
 au Tryz.func184 Q4i.eq_1 (.o (.o (.o (.o (.o (.w [7] [0,17] [0,1,5,7,8] [0,1,17] (fun (s50:Z0×(List Q5)×Int)=>[(7,.sl 9 17 (s50.2.1).length),(8,eI s50.2.2)]) (fun s50=>[(0,some ⟨2,[(Y7 s50.1)],0,0x00d7⟩),(17,some ⟨9,(List.map X4 s50.2.1),0,0x00a1⟩)]) (fun s50=>.z) (fun s58=>.z)))))))
instance W67:∀ (n:Nat) (p0:Z0),Ct (Q3q n p0) fun res=>Q19 Tryz.prog 0o00135 [⟨2,[(Y7 p0)],0,0x00d7⟩] [.ptr 2 0 0 0] (fun H d=>H=[some ⟨2,[(Y7 res.2.2.2.2)],0,0x00d7⟩,some ⟨9,List.map X4 res.2.2.1,0,0x00a1⟩]∧d=.tup [(.slice 2 (List.map Z8 res.1)),(.agg (Z2 res.2.1)),.sl 9 1 res.2.2.1.length,(.agg (Z5 res.2.2.2.1))]):=
 au Tryz.func93 Q3q.eq_1 (.o (.o (.o (.g [0,3,5,6,7,8] [0,9,25,81,89] [] [] (.o (.d [0,1,2,3,4,6,5,7,8,9,10] [3,4] [] .z))))))
instance Z8v:∀ (n:Nat) (p0:(List Int)),Ct (W9 n p0) fun res=>Q19 Tryz.prog 0o00125 [] [(.slice 1 (List.map (rK .u8) p0))] (fun H d=>H=[some ⟨9,List.map X4 res.2.2,0,0x00a1⟩]∧d=.tup [(.slice 2 (List.map Z8 res.1)),(.agg (Z2 res.2.1)),.sl 9 0 res.2.2.length]):=
 au Tryz.func85 W9.eq_1 (.o (.o (.o (.o (.j 3 0 [3,5,6,7,8] [8,33,104,57] (fun (s15:Z0×(List Q5))=>[(8,.sl 9 57 (s15.2).length)]) (fun s15=>[(33,some ⟨2,[(Y7 s15.1)],0,0x00d7⟩),(57,some ⟨9,(List.map X4 s15.2),0,0x00a1⟩)]) .z (fun _=>.g [3,5,6,7,8] [0,1,2,3] [] [] (.o (.d [0,1,2,3,4,5,6,7] [2] [] .z))))))))
instance X43:∀ (n:Nat) (p0:(List Int)),Ct (Q0j n p0) fun res=>Q6 Tryz.prog 0o00045 [(.slice 1 (List.map (rK .u8) p0))] (fun d=>d=.tup [(.slice 2 (List.map Z8 res.1)),(.agg (Z2 res.2.1)),(.slice 9 (List.map X4 res.2.2))]):=
 au Tryz.func37 Q0j.eq_1 .z
end Go.Proofs.YtfhpjeogjcfkaaaGreat
