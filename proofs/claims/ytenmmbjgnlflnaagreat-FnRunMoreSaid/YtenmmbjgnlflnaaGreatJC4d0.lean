import Derived.Test.YtenmmbjgnlflnaaGreatJC3c0
import Derived.Test.YtenmmbjgnlflnaaGreatJC3b0
set_option linter.unusedSimpArgs false
set_option linter.unusedVariables false
namespace Go.Proofs.YtenmmbjgnlflnaaGreat
open Go Go.RowKit
set_option maxRecDepth 100000
set_option maxHeartbeats 20000000
instance W19:∀ (n:Nat) (p0:(List Q2)) (p1:Q3) (p2:(List X1)),Ct (Q7v n p0 p1 p2) fun res=>Q6 Tryz.prog 0o00465 [(.slice 2 (List.map Z5 p0)),(.agg (Z6 p1)),(.slice 9 (List.map V7 p2))] (fun d=>d=(eS res)):=
 au Tryz.func309 Q7v.eq_1 (.o (.o (.o (.o (.ls 2 (.f [7] [] [0,2,4,7,8] [0] (fun (k126:Nat) (s122:ByteArray)=>[(7,eS s122),(8,eI (k126:Int))]) (fun k126 s122=>[]) (fun k126 s122=>.o (.j 5 1 [0,2,4,7,8] [0] (fun (s142:ByteArray)=>[(7,eS s142)]) (fun _=>[]) .z (fun _=>.g [0,2,4,7,8] [0] [] [] (.o (.o (.d [0,1,2,3,4,5,6,7,8,9] [0] [] .z)))))) (fun s130=>.z)))))))
instance W1q:∀ (n:Nat) (p0:(List Q2)) (p1:(List Q8)) (p2:GFun),Ct (Q7z n p0 p1 p2) fun res=>Q6 Tryz.prog 0o00423 [(.slice 2 (List.map Z5 p0)),(.slice 4 (List.map W1 p1)),(.agg (J1 p2))] (fun d=>d=(eS res)):=
 au Tryz.func275 Q7z.eq_1 (.o (.o (.o (.b fun (p2:GFun)=>.g [0,1,5] [0] [] [] (.o (.o (.o (.o (.d [0,1,2,3,6,7,8,9,4,5,10,11,12] [0] [] (.lc 0 4 9 V7 p2.clauses (.f [7] [] [0,1,5,7,8] [0] (fun (k110:Nat) (s106:ByteArray)=>[(7,eS s106),(8,eI (k110:Int))]) (fun k110 s106=>[]) (fun k110 s106=>.o (.g [0,1,5,7,8] [0] [] [] (.o (.o (.o (.o (.o (.o (.o (.d [0,1,2,3,4,5,6,7,8,9,10,14,15,16,17,18,19,20,21,22,23,11,12,13,24,25,26] [0] [] .z)))))))))) (fun s114=>.z))))))))))))
instance X67:∀ (n:Nat) (p0:(List Q2)),Ct (Q1p n p0) fun res=>Q6 Tryz.prog 0o00127 [(.slice 2 (List.map Z5 p0))] (fun d=>d=(eB res)):=
 au Tryz.func87 Q1p.eq_1 (.o (.o (.i .z (.ls 0 (.f [] [] [0,3,4,14,15,16] [32,48] (fun (k1660:Nat) (s1656:(List (ByteArray×Bool))×(List (ByteArray×Bool)))=>[(16,eI (k1660:Int))]) (fun k1660 s1656=>[(32,some ⟨0,List.map rSB s1656.1,0,0x00ea⟩),(48,some ⟨0,List.map rSB s1656.2,0,0x00ea⟩)]) (fun k1660 s1656=>.o (.i .z (.o (.i .z (.i .z (.i .z (.i .z (.o (.i .z (.ls 49 (.f [0,3,4,14,15,16] [0,1] [0,3,4,14,15,16,58,59,60] [0,1] (fun (k1952:Nat) (s1948:(List (ByteArray×Bool)))=>[(60,eI (k1952:Int))]) (fun k1952 s1948=>[(0,some ⟨0,List.map rSB s1948,0,0x00ea⟩)]) (fun k1952 s1948=>.z) (fun s1956=>.z)))))))))))) (fun s1664=>.z))))))
end Go.Proofs.YtenmmbjgnlflnaaGreat
