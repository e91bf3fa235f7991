import Derived.Test.YtenmmbjgnlflnaaGreatBJC4c0
set_option linter.unusedSimpArgs false
set_option linter.unusedVariables false
namespace Go.Proofs.YtenmmbjgnlflnaaGreat
open Go Go.RowKit
set_option maxRecDepth 100000
set_option maxHeartbeats 20000000
instance W46:∀ (n:Nat) (p0:ByteArray),Ct (Q72 n p0) fun res=>Q7 Tryz.prog 0o00220 [(eS p0)] (fun d=>d=.tup [(.slice 2 (List.map Z8 res.1)),(eB res.2)]):=
 au Tryz.func144 Q72.eq_1 (.o (.o (.o (.ls 16 (.f [0,4,5,6] [16,32] [0,4,5,6,7] [16,32] (fun (k153:Nat) (s149:(List ByteArray))=>[(5,.sl 1 32 (s149).length),(7,eI (k153:Int))]) (fun k153 s149=>[(32,some ⟨1,(List.map rS s149),0,0x0009⟩)]) (fun k153 s149=>.z) (fun s157=>.pF 1 (.ll 1 (.f [0,4] [0] [0,4,5,6,9] [0,1] (fun (k1263:Nat) (s1259:(List Q4))=>[(4,.sl 2 0 (s1259).length),(9,eI (k1263:Int))]) (fun k1263 s1259=>[(0,some ⟨2,(List.map Z8 s1259),0,0x00ed⟩)]) (fun k1263 s1259=>.b fun (x1264:ByteArray)=>.o (.o (.o (.o (.pC 146 1 3 0x00ef (.ls 59 (.f [0,4,5,6,9,11] [0,1,146,170] [0,4,5,6,9,10,11,12] [0,1,146,170] (fun (k1466:Nat) (s1462:(List Q96))=>[(12,eI (k1466:Int))]) (fun k1466 s1462=>[(1000000146,some ⟨2,[[(eS x1264),(.sl 3 170 (s1462).length)]],0,0x00ed⟩),(170,some ⟨3,(List.map Q8c s1462),0,0x00ef⟩)]) (fun k1466 s1462=>.o (.i (.g [0,4,5,6,9,10,11,12] [0,1,2,3] [] [(1000000002,some ⟨2,[[(eS x1264),(.sl 3 3 (s1462).length)]],0,0x00ed⟩)] (.o (.o (.d [0,1,2,3,4,5,6,7,8,9,10,11] [2] [85] .z)))) .z)) (fun s1470=>.o (.pF 3 .z))))))))) (fun s1267=>.z)))))))))
end Go.Proofs.YtenmmbjgnlflnaaGreat
