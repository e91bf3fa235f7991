import Derived.Test.YtfhpjeogjcfkaaaGreatBJMir
import Derived.Test.YtfhpjeogjcfkaaaGreatBJAuto
set_option linter.unusedSimpArgs false
set_option linter.unusedVariables false
namespace Go.Proofs.YtfhpjeogjcfkaaaGreat
open Go Go.RowKit
set_option maxRecDepth 100000
set_option maxHeartbeats 20000000
instance V7k:∀ (p0:(List Int)) (p1:Int),Ct (Q6d p0 p1) fun res=>Q8 Tryz.prog 0o00304 [(.slice 1 (List.map rI p0)),(eI p1)] (fun d=>d=(eB res)):=
 au Tryz.func196 Q6d.eq_1 (.o (.o (.ls 0 (.f [] [] [0,1,5] [] (fun (k44:Nat) (s40:Unit)=>[(5,eI (k44:Int))]) (fun k44 s40=>[]) (fun k44 s40=>.z) (fun s48=>.z)))))
instance V50:∀ (p0:(List Z4)) (p1:Int),Ct (Q45 p0 p1) fun res=>Q8 Tryz.prog 0o00450 [(.slice 3 (List.map Y8 p0)),(eI p1)] (fun d=>d=(eI res)):=
 au Tryz.func296 Q45.eq_1 (.o (.o (.ls 0 (.f [] [] [0,1,5] [] (fun (k44:Nat) (s40:Unit)=>[(5,eI (k44:Int))]) (fun k44 s40=>[]) (fun k44 s40=>.z) (fun s48=>.z)))))
instance Z4c:∀ (n:Nat) (p0:(List Q1)) (p1:Int) (p2:Int) (p3:(Q1→Q1→Option Int)) {p3_f:FuncId} {p3_c:List D} [p3_i:CF2 (fun a0=>(.agg (Q6 a0))) (fun a1=>(.agg (Q6 a1))) (fun r=>(eI r)) p3 p3_f p3_c],Ct (Y1 n p0 p1 p2 p3) fun res=>Y4 Tryz.prog 0o00374 [⟨2,List.map Q6 p0,0,0x0095⟩] [.sl 2 0 p0.length,(eI p1),(eI p2),.clos p3_f p3_c] (fun H d=>H=[some ⟨2,List.map Q6 res,0,0x0095⟩]∧d=.tup []):=
 au Tryz.func252 Y1.eq_1 (.o (.o (.o (.o (.o (.o (.o (.o (.w [] [0] [0,1,2,3,8] [0] (fun (s464:(List Q1)×Int)=>[(0,.sl 2 0 (s464.1).length),(8,eI s464.2)]) (fun s464=>[(0,some ⟨2,(List.map Q6 s464.1),0,0x0095⟩)]) (fun s464=>.i (.w [0,1,2,3,8] [0] [0,1,2,3,8,9] [0] (fun (s660:(List Q1)×Int)=>[(0,.sl 2 0 (s660.1).length),(9,eI s660.2)]) (fun s660=>[(0,some ⟨2,(List.map Q6 s660.1),0,0x0095⟩)]) (fun s660=>.g [0,1,2,3,8,9] [0] [] [] (.i (.o (.o (.o (.d [0,1,2,3,4,5,6,7,8,9,10,11,12,13,14,15,16] [0] [] (.i (.g [0,1,2,3,8,9] [0] [] [] (.o (.o (.o (.d [0,1,2,3,4,5,6,7,8,9,10,11,12,13,14,15,16,17] [0] [51,52] .z))))) .z))))) (.d [0,1,2,3,4,5,6,7,8,9,10,11,12,13,14,15,16] [] [] .z))) (fun s668=>.z)) .z) (fun s472=>.z))))))))))
instance V5i:∀ (p0:Int) (p1:Int) (p2:Int),Ct (Y2 p0 p1 p2) fun res=>Q8 Tryz.prog 0o00071 [(eI p0),(eI p1),(eI p2)] (fun d=>d=(eB res)):=
 au Tryz.func57 Y2.eq_1 .z
instance X2t:∀ (p0:(List Q3)) (p1:(Q3→Option Bool)) {p1_f:FuncId} {p1_c:List D} [p1_i:CF1 (fun a0=>(.agg (X9 a0))) (fun r=>(eB r)) p1 p1_f p1_c],Ct (Q4o p0 p1) fun res=>Q8 Tryz.prog 0o00310 [(.slice 9 (List.map X9 p0)),.clos p1_f p1_c] (fun d=>d=(eI res)):=
 au Tryz.func200 Q4o.eq_1 (.o (.o (.o (.o (.o (.ls 0 (.f [] [] [0,1,7,8] [] (fun (k54:Nat) (s50:Unit)=>[(8,eI (k54:Int))]) (fun k54 s50=>[]) (fun k54 s50=>.z) (fun s58=>.z))))))))
instance W5d:∀ (n:Nat) (p0:Q0),Ct (Q1p n p0) fun res=>Q8 Tryz.prog 0o00172 [(.agg (Z2 p0))] (fun d=>d=(eI res)):=
 ar (au Tryz.func122 Q1p.eq_2 (.o (.o (.o (.j 2 0 [1,3] [0] (fun (s2:Int)=>[(3,eI s2)]) (fun _=>[]) .z (fun s2=>.ls 10 (.f [3] [] [1,3,10,11,12] [0] (fun (k86:Nat) (s82:Int)=>[(3,eI s82),(12,eI (k86:Int))]) (fun k86 s82=>[]) (fun k86 s82=>.o (.j 6 0 [1,3,10,11,12] [0] (fun (s94:Int)=>[(3,eI s94)]) (fun _=>[]) .z (fun _=>.z))) (fun s90=>.z))))))))
instance W18:∀ (p0:X3) (q0:Q27),Ct (Q2d p0 q0) fun res=>Q8 Tryz.prog 0o00277 [(.agg (Q15 p0)),.cptr (Q8c q0)] (fun d=>d=(eB res)):=
 au Tryz.func191 Q2d.eq_1 .z
instance V0a:∀ (n:Nat) (p0:Q2),Ct (Q2p n p0) fun res=>Q8 Tryz.prog 0o00134 [(.agg (X4 p0))] (fun d=>d=(.agg (X4 res))):=
 ar (au Tryz.func92 Q2p.eq_2 (.o (.o (.b fun (p0:Q2)=>.pC 56 2 3 0x001d (.ls 12 (.f [2,3] [8,56,104] [2,3,12,13,14] [8,56,104] (fun (k56:Nat) (s52:(List Q2))=>[(14,eI (k56:Int))]) (fun k56 s52=>[(1000000056,some ⟨3,[[(eI p0.ctor),(eI p0.n),(.sl 3 104 (s52).length)]],0,0x001d⟩),(104,some ⟨3,(List.map X4 s52),0,0x001d⟩)]) (fun k56 s52=>.o (.g [2,3,5,12,13,14] [0,1,2,27] [] [(1000000001,some ⟨3,[[(eI p0.ctor),(eI p0.n),(.sl 3 2 (s52).length)]],0,0x001d⟩)] (.o (.o (.d [0,1,2,3,4,5,6,7] [1,3] [24] .z))))) (fun s60=>.z)))))))
instance V28:∀ (n:Nat) (p0:(List Q1)),Ct (Q35 n p0) fun res=>Q8 Tryz.prog 0o00302 [(.slice 2 (List.map Q6 p0))] (fun d=>d=(.slice 2 (List.map Q6 res))):=
 au Tryz.func194 Q35.eq_1 (.o (.o (.w [3] [8] [0,3,4] [8] (fun (s496:(List Q1)×Int)=>[(3,.sl 2 8 (s496.1).length),(4,eI s496.2)]) (fun s496=>[(8,some ⟨2,(List.map Q6 s496.1),0,0x0095⟩)]) (fun s496=>.i (.ls 0 (.f [0,3,4] [0] [0,3,4,5] [0] (fun (k587:Nat) (s583:(List Q1))=>[(3,.sl 2 0 (s583).length),(5,eI (k587:Int))]) (fun k587 s583=>[(0,some ⟨2,(List.map Q6 s583),0,0x0095⟩)]) (fun k587 s583=>.o (.j 8 0 [0,3,4,5] [0] (fun (s595:(List Q1))=>[(3,.sl 2 0 (s595).length)]) (fun s595=>[(0,some ⟨2,(List.map Q6 s595),0,0x0095⟩)]) (.i (.o (.o (.pF 153 .z))) .z) (fun _=>.z))) (fun s591=>.z))) .z) (fun s504=>.z))))
instance V2i:∀ (n:Nat) (p0:Q2) (p1:Int),Ct (Q4n n p0 p1) fun res=>Q8 Tryz.prog 0o00154 [(.agg (X4 p0)),(eI p1)] (fun d=>d=(eI res)):=
 ar (au Tryz.func108 Q4n.eq_2 (.o (.o (.b fun (p0:Q2)=>.o (.lc 0 2 3 X4 p0.kids (.f [5] [] [1,2,5,6] [0] (fun (k80:Nat) (s76:Int)=>[(5,eI s76),(6,eI (k80:Int))]) (fun k80 s76=>[]) (fun k80 s76=>.z) (fun s84=>.z)))))))
instance V7i:Ct (Q36) fun res=>Q8 Tryz.prog 0o00253 [] (fun d=>d=(.agg (Z2 res))):=
 au Tryz.func171 Q36.eq_1 .z
instance X9q:∀ (p1:Int),Ct (Q30 p1) fun res=>Y4 Tryz.prog 0o00330 [] [.nil,(eI p1)] (fun H d=>H=[some ⟨3,List.map Q1u res,0,0x006f⟩]∧d=.sl 3 0 res.length):=
 au Tryz.func216 Q30.eq_1 (.o (.i .z (.j 3 0 [0] [9000] (fun (s6:Unit)=>[(0,.sl 3 9000 0)]) (fun _=>[(9000,some ⟨3,(List.map Q1u []),0,0x006f⟩)]) (.i (.o (.o (.pS 144 0 Q1u ([]:List Z7) .z))) (.pN 0 3 0x006f .z)) (fun _=>.z))))
instance V25:∀ (p0:(List Y3)) (p1:Int),Ct (Q4h p0 p1) fun res=>Q8 Tryz.prog 0o00416 [(.slice 3 (List.map Q2n p0)),(eI p1)] (fun d=>d=(.slice 3 (List.map Q2n res))):=
 au Tryz.func270 Q4h.eq_1 (.o (.o (.ls 0 (.f [5] [8] [0,1,5,6] [8] (fun (k71:Nat) (s67:(List Y3))=>[(5,.sl 3 8 (s67).length),(6,eI (k71:Int))]) (fun k71 s67=>[(8,some ⟨3,(List.map Q2n s67),0,0x0142⟩)]) (fun k71 s67=>.o (.j 5 0 [0,1,5,6] [0] (fun (s78:(List Y3))=>[(5,.sl 3 0 (s78).length)]) (fun s78=>[(0,some ⟨3,(List.map Q2n s78),0,0x0142⟩)]) .z (fun _=>.z))) (fun s75=>.z)))))
end Go.Proofs.YtfhpjeogjcfkaaaGreat
