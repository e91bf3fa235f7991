import Derived.Test.YtenmmbjgnlflnaaGreatBJC3c0
import Derived.Test.YtenmmbjgnlflnaaGreatBJC3b0
set_option linter.unusedSimpArgs false
set_option linter.unusedVariables false
namespace Go.Proofs.YtenmmbjgnlflnaaGreat
open Go Go.RowKit
set_option maxRecDepth 100000
set_option maxHeartbeats 20000000
instance V10:∀ (n:Nat) (p0:(List Q4)) (p1:Q2) (p2:(List Z6)),Ct (Z1b n p0 p1 p2) fun res=>Q7 Tryz.prog 0o00465 [(.slice 2 (List.map Z8 p0)),(.agg (Z7 p1)),(.slice 9 (List.map V6 p2))] (fun d=>d=(eS res)):=
 au Tryz.func309 Z1b.eq_1 (.o (.o (.o (.o (.ls 2 (.f [7] [] [0,2,4,7,8] [0] (fun (k126:Nat) (s122:ByteArray)=>[(7,eS s122),(8,eI (k126:Int))]) (fun k126 s122=>[]) (fun k126 s122=>.o (.j 5 1 [0,2,4,7,8] [0] (fun (s142:ByteArray)=>[(7,eS s142)]) (fun _=>[]) .z (fun _=>.g [0,2,4,7,8] [0] [] [] (.o (.o (.d [0,1,2,3,4,5,6,7,8,9] [0] [] .z)))))) (fun s130=>.z)))))))
instance V1i:∀ (n:Nat) (p0:(List Q4)) (p1:(List Z0)) (p2:GFun),Ct (Z1f n p0 p1 p2) fun res=>Q7 Tryz.prog 0o00423 [(.slice 2 (List.map Z8 p0)),(.slice 4 (List.map W8 p1)),(.agg (Q0d p2))] (fun d=>d=(eS res)):=
 au Tryz.func275 Z1f.eq_1 (.o (.o (.o (.b fun (p2:GFun)=>.g [0,1,5] [0] [] [] (.o (.o (.o (.o (.d [0,1,2,3,6,7,8,9,4,5,10,11,12] [0] [] (.lc 0 4 9 V6 p2.clauses (.f [7] [] [0,1,5,7,8] [0] (fun (k110:Nat) (s106:ByteArray)=>[(7,eS s106),(8,eI (k110:Int))]) (fun k110 s106=>[]) (fun k110 s106=>.o (.g [0,1,5,7,8] [0] [] [] (.o (.o (.o (.o (.o (.o (.o (.d [0,1,2,3,4,5,6,7,8,9,10,14,15,16,17,18,19,20,21,22,23,11,12,13,24,25,26] [0] [] .z)))))))))) (fun s114=>.z))))))))))))
instance W4l:∀ (n:Nat) (p0:(List Q4)),Ct (Q3q n p0) fun res=>Q7 Tryz.prog 0o00127 [(.slice 2 (List.map Z8 p0))] (fun d=>d=(eB res)):=
 au Tryz.func87 Q3q.eq_1 (.o (.o (.i .z (.ls 0 (.f [] [] [0,3,4,14,15,16] [32,48] (fun (k1660:Nat) (s1656:(List (ByteArray×Bool))×(List (ByteArray×Bool)))=>[(16,eI (k1660:Int))]) (fun k1660 s1656=>[(32,some ⟨0,List.map rSB s1656.1,0,0x00ea⟩),(48,some ⟨0,List.map rSB s1656.2,0,0x00ea⟩)]) (fun k1660 s1656=>.o (.i .z (.o (.i .z (.i .z (.i .z (.i .z (.o (.i .z (.ls 49 (.f [0,3,4,14,15,16] [0,1] [0,3,4,14,15,16,58,59,60] [0,1] (fun (k1952:Nat) (s1948:(List (ByteArray×Bool)))=>[(60,eI (k1952:Int))]) (fun k1952 s1948=>[(0,some ⟨0,List.map rSB s1948,0,0x00ea⟩)]) (fun k1952 s1948=>.z) (fun s1956=>.z)))))))))))) (fun s1664=>.z))))))
end Go.Proofs.YtenmmbjgnlflnaaGreat
