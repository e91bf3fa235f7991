import Derived.Test.YtfhpjeogjcfkaaaGreatRJC2c0
set_option linter.unusedSimpArgs false
set_option linter.unusedVariables false
namespace Go.Proofs.YtfhpjeogjcfkaaaGreat
open Go Go.RowKit
set_option maxRecDepth 100000
set_option maxHeartbeats 20000000
instance W43:∀ (n:Nat) (p0:(List Q3)),Ct (Q0g n p0) fun res=>Z2 Tryz.prog 0o00360 [(.slice 2 (List.map W8 p0))] (fun d=>d=(.slice 1 (List.map rI res))):=
 au Tryz.func240 Q0g.eq_1 (.o (.o (.o (.w [3] [32] [0,3,4] [32] (fun (s7767:(List Int)×Int)=>[(3,.sl 1 32 (s7767.1).length),(4,eI s7767.2)]) (fun s7767=>[(32,some ⟨1,(List.map rI s7767.1),0,0x0003⟩)]) (fun s7767=>.i (.w [0,3,4] [0] [0,3,4,5] [0] (fun (s9063:(List Int)×Int)=>[(3,.sl 1 0 (s9063.1).length),(5,eI s9063.2)]) (fun s9063=>[(0,some ⟨1,(List.map rI s9063.1),0,0x0003⟩)]) (fun s9063=>.i (.o (.ls 33 (.f [0,3,4,5] [0] [0,3,4,5,6,7,8] [0,73] (fun (k9286:Nat) (s9282:(List Int))=>[(3,.sl 1 0 (s9282).length),(8,eI (k9286:Int))]) (fun k9286 s9282=>[(0,some ⟨1,(List.map rI s9282),0,0x0003⟩)]) (fun k9286 s9282=>.o (.j 13 0 [0,3,4,5,6,7,8] [0,1] (fun (s9307:(List Int))=>[(3,.sl 1 0 (s9307).length)]) (fun s9307=>[(0,some ⟨1,(List.map rI s9307),0,0x0003⟩)]) (.g [0,3,4,5,6,7,8] [0,1] [] [] (.o (.d [0,1,2,3,4,5,6,7,8] [1] [] .z))) (fun _=>.z))) (fun s9290=>.z)))) .z) (fun s9071=>.z)) .z) (fun s7775=>.z)))))
instance W6p:∀ (n:Nat) (p0:(List Q3)) (p1:Q6w),Ct (Q95 n p0 p1) fun res=>Z2 Tryz.prog 0o00366 [(.slice 2 (List.map W8 p0)),(.agg (Q5r p1))] (fun d=>d=(eB res)):=
 au Tryz.func246 Q95.eq_1 .z
instance Z9v:∀ (n:Nat) (p0:Z9) (p1:(List Grow)) (p2:(List Z5)),Ct (Q02 n p0 p1 p2) fun res=>J4 Tryz.prog 0o00201 [⟨4,[(Y0 p0)],0,0x006c⟩] [.ptr 4 0 0 0,(.slice 3 (List.map Q3j p1)),(.slice 3 (List.map Q0v p2))] (fun H d=>H=[some ⟨4,[(Y0 res.2)],0,0x006c⟩]∧d=(eI res.1)):=
 au Tryz.func129 Q02.eq_1 (.o (.o (.o (.o (.ls 2 (.f [7] [0] [0,1,2,7,8,14,15] [0] (fun (k887:Nat) (s883:Z9×Int×Int)=>[(7,eI s883.2.1),(8,eI s883.2.2),(15,eI (k887:Int))]) (fun k887 s883=>[(0,some ⟨4,[(Y0 s883.1)],0,0x006c⟩)]) (fun k887 s883=>.o (.j 4 0 [0,1,2,7,8,14,15] [0] (fun (s976:Z9×Int×Int)=>[(7,eI s976.2.1),(8,eI s976.2.2)]) (fun s976=>[(0,some ⟨4,[(Y0 s976.1)],0,0x006c⟩)]) (.o (.o (.i .z (.j 7 0 [0,1,2,7,8,9,10,14,15] [0] (fun (s1020:Z9×Int)=>[(10,eI s1020.2)]) (fun s1020=>[(0,some ⟨4,[(Y0 s1020.1)],0,0x006c⟩)]) (.i (.ls 1 (.f [0,1,2,7,8,9,10,14,15] [0] [0,1,2,7,8,9,10,14,15,33,34,35] [0] (fun (k1044:Nat) (s1040:Int)=>[(10,eI s1040),(35,eI (k1044:Int))]) (fun k1044 s1040=>[]) (fun k1044 s1040=>.o (.j 11 0 [0,1,2,7,8,9,10,14,15,33,34,35] [0] (fun (s1051:Int)=>[(10,eI s1051)]) (fun _=>[]) .z (fun _=>.z))) (fun s1048=>.z))) .z) (fun _=>.z))))) (fun _=>.z))) (fun s891=>.z)))))))
instance W4a:∀ (n:Nat) (p0:X0) (p1:(List Z1)) (p2:Q2),Ct (Q54 n p0 p1 p2) fun res=>Z2 Tryz.prog 0o00104 [(.agg (Q33 p0)),(.slice 9 (List.map V6 p1)),(.agg (W4 p2))] (fun d=>d=.tup [(eI res.1),(.slice 4 (List.map Q48 res.2.1)),(eI res.2.2)]):=
 au Tryz.func68 Q54.eq_1 (.o (.o (.o (.o (.w [] [] [1,3,5,9] [0,8] (fun (s34:X0×Int)=>[(9,eI s34.2)]) (fun s34=>[(0,some ⟨6,[(Q33 s34.1)],0,0x0030⟩)]) (fun s34=>.z) (fun s42=>.z))))))
instance W49:∀ (n:Nat) (p0:(List Q3)) (p1:Q6) (p2:Q2),Ct (Q40 n p0 p1 p2) fun res=>Z2 Tryz.prog 0o00056 [(.slice 2 (List.map W8 p0)),(.agg (W6 p1)),(.agg (W4 p2))] (fun d=>d=(eB res)):=
 au Tryz.func46 Q40.eq_1 .z
end Go.Proofs.YtfhpjeogjcfkaaaGreat
