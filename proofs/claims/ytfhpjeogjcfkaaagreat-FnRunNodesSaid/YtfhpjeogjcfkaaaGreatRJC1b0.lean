import Derived.Test.YtfhpjeogjcfkaaaGreatRJC0d0
import Derived.Test.YtfhpjeogjcfkaaaGreatRJC0a0
import Derived.Test.YtfhpjeogjcfkaaaGreatRJC0b0
set_option linter.unusedSimpArgs false
set_option linter.unusedVariables false
namespace Go.Proofs.YtfhpjeogjcfkaaaGreat
open Go Go.RowKit
set_option maxRecDepth 100000
set_option maxHeartbeats 20000000
instance X9i:∀ (p0:Z7) (p1:(List Int)),Ct (X2 p0 p1) fun res=>J4 Tryz.prog 0o00117 [⟨2,[(V9 p0)],0,0x00d7⟩] [.ptr 2 0 0 0,(.slice 1 (List.map rI p1))] (fun H d=>H=[some ⟨2,[(V9 res.2)],0,0x00d7⟩]∧d=(eI res.1)):=
 au Tryz.func79 X2.eq_1 .z
instance W6k:∀ (p0:(List Q3)) (p1:Q6) (p2:Int),Ct (Q0h p0 p1 p2) fun res=>Z2 Tryz.prog 0o00306 [(.slice 2 (List.map W8 p0)),(.agg (W6 p1)),(eI p2)] (fun d=>d=(.slice 2 (List.map W6 res))):=
 au Tryz.func198 Q0h.eq_1 (.o (.o (.o (.o (.b fun (x2:Q6w)=>.lc 104 1 2 W6 x2.args (.f [7] [16] [4,7,8,9] [0,16,104] (fun (k118:Nat) (s114:(List Q6))=>[(7,.sl 2 16 (s114).length),(9,eI (k118:Int))]) (fun k118 s114=>[(16,some ⟨2,(List.map W6 s114),0,0x0019⟩)]) (fun k118 s114=>.b fun (x119:Q6)=>.j 7 0 [4,7,8,9,10] [0,1,2,83] (fun (s133:Int)=>[]) (fun s133=>[(83,some ⟨2,[[(eI x119.data),(eI s133)]],0,0x0019⟩)]) .z (fun _=>.z)) (fun s122=>.z)))))))
instance W65:∀ (n:Nat) (p0:Z7) (p1:Q0) (p2:Int),Ct (Q4q n p0 p1 p2) fun res=>J4 Tryz.prog 0o00532 [⟨2,[(V9 p0)],0,0x00d7⟩] [.ptr 2 0 0 0,(.agg (Z0 p1)),(eI p2)] (fun H d=>H=[some ⟨2,[(V9 res.2.2)],0,0x00d7⟩]∧d=.tup [(.agg (Z0 res.1)),(eI res.2.1)]):=
 ar (au Tryz.func346 Q4q.eq_2 (.o (.o (.o (.b fun (p1:Q0)=>.o (.i .z (.i .z (.i .z (.j 3 0 [0,2,4,6] [0,1,9] (fun (s25:Z7)=>[]) (fun s25=>[(0,some ⟨2,[(V9 s25)],0,0x00d7⟩)]) .z (fun s25=>.pC 11 5 6 0x0064 (.lc 1 5 6 Z0 p1.kids (.f [0,6,8,9] [0,2,11,67] [0,4,6,8,9,10] [0,1,2,11,67] (fun (k95:Nat) (s91:Z7×(List Q0)×Int)=>[(9,eI s91.2.2),(10,eI (k95:Int))]) (fun k95 s91=>[(0,some ⟨2,[(V9 s91.1)],0,0x00d7⟩),(1000000011,some ⟨6,[[(eI p1.op),(eI p1.ctor),(eI p1.n),(eI p1.m),(eI p1.var),(.sl 6 67 (s91.2.1).length)]],0,0x0064⟩),(67,some ⟨6,(List.map Z0 s91.2.1),0,0x0064⟩)]) (fun k95 s91=>.z) (fun s99=>.j 14 0 [6,8,9] [0,1,2,3] (fun (s112:Z7)=>[]) (fun s112=>[(0,some ⟨2,[(V9 s112)],0,0x00d7⟩),(1000000002,some ⟨6,[[(eI p1.op),(eI p1.ctor),(eI p1.n),(eI p1.m),(eI p1.var),(.sl 6 3 (s99.2.1).length)]],0,0x0064⟩)]) (.i (.o (.i (.pF 3 (.pF 76 .z)) .z)) .z) (fun _=>.pF 3 .z))))))))))))))
instance W3x:∀ (p0:(List Q9)) (p1:(List Q9)),Ct (Q3y p0 p1) fun res=>Z2 Tryz.prog 0o00522 [(.slice 3 (List.map V4 p0)),(.slice 3 (List.map V4 p1))] (fun d=>d=(eB res)):=
 au Tryz.func338 Q3y.eq_1 (.o (.o (.ls 0 (.f [0,1] [] [0,1,5] [] (fun (k124:Nat) (s120:Unit)=>[(5,eI (k124:Int))]) (fun k124 s120=>[]) (fun k124 s120=>.o (.o (.g [0,1,5,6] [] [] [] (.i (.d [0,1,2,3,4,5,6,7,8,9,10,11,12,13,14] [] [] .z) (.o (.d [0,1,2,3,4,5,6,7,8,9,10,11,12,13,14] [] [] .z)))))) (fun s128=>.z)))))
instance W6i:∀ (p0:ByteArray),Ct (Q93 p0) fun res=>Z2 Tryz.prog 0o00441 [(eS p0)] (fun d=>d=(eB res)):=
 au Tryz.func289 Q93.eq_1 .z
instance W8n:∀ (p0:(List Q3)) (p1:Q6),Ct (Z05 p0 p1) fun res=>Z2 Tryz.prog 0o00463 [(.slice 2 (List.map W8 p0)),(.agg (W6 p1))] (fun d=>d=(eB res)):=
 au Tryz.func307 Z05.eq_1 .z
instance W21:∀ (p0:(List Q1)),Ct (Q3b p0) fun res=>Z2 Tryz.prog 0o00207 [(.slice 2 (List.map Q7 p0))] (fun d=>d=(.slice 2 (List.map Q7 res))):=
 au Tryz.func135 Q3b.eq_1 (.o (.pN 3 2 0x0095 (.ls 0 (.f [3] [40] [3,6,7,8] [40] (fun (k56:Nat) (s52:(List Q1))=>[(3,.sl 2 40 (s52).length),(8,eI (k56:Int))]) (fun k56 s52=>[(40,some ⟨2,(List.map Q7 s52),0,0x0095⟩)]) (fun k56 s52=>.o (.g [3,5,6,7,8] [0,25] [] [] (.o (.o (.d [0,1,2,3,4,5,6,7,8,9] [1] [] (.pF 3 .z)))))) (fun s60=>.z)))))
instance V06:∀ (p0:(List Q3)) (p1:Q6),Ct (Q7j p0 p1) fun res=>Z2 Tryz.prog 0o00352 [(.slice 2 (List.map W8 p0)),(.agg (W6 p1))] (fun d=>d=(eB res)):=
 au Tryz.func234 Q7j.eq_1 .z
instance W3u:∀ (n:Nat) (p0:Q0),Ct (Q06 n p0) fun res=>J4 Tryz.prog 0o00151 [] [(.agg (Z0 p0))] (fun H d=>H=[some ⟨6,List.map Z0 res,0,0x0064⟩]∧d=.sl 6 0 res.length):=
 ar (au Tryz.func105 Q06.eq_2 (.o (.o (.b fun (p0:Q0)=>.i (.g [1] [0] [] [] (.o (.o (.o (.o (.b fun (x16:(List Q0))=>.d [0,1,2,3,5,6,7,8,4,9,10,11] [0] [] (.i (.gr 4 [3] [17] [(3,.sl 6 17 (x16).length)] [(17,some ⟨6,(List.map Z0 x16),0,0x0064⟩)] (.b fun (x20:(List Q0))=>.pS 0 401 Z0 x20 .z)) .z))))))) (.lc 0 5 6 Z0 p0.kids (.f [1,4] [0,40] [1,4,5] [0,40] (fun (k76:Nat) (s72:(List (List Q0)))=>[(4,.sl 1 40 (s72).length),(5,eI (k76:Int))]) (fun k76 s72=>[(40,some ⟨1,(List.map (rL 6 Z0) s72),0,0x0062⟩)]) (fun k76 s72=>.o (.o (.o (.pF 91 .z)))) (fun s80=>.o (.ls 48 (.f [7] [26] [1,6,7,8] [0,26] (fun (k131:Nat) (s127:(List Q0))=>[(7,.sl 6 26 (s127).length),(8,eI (k131:Int))]) (fun k131 s127=>[(26,some ⟨6,(List.map Z0 s127),0,0x0064⟩)]) (fun k131 s127=>.z) (fun s135=>.z))))))))))
end Go.Proofs.YtfhpjeogjcfkaaaGreat
