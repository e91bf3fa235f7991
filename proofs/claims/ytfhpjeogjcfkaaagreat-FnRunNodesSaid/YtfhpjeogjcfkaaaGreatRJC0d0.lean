import Derived.Test.YtfhpjeogjcfkaaaGreatRJMir
import Derived.Test.YtfhpjeogjcfkaaaGreatRJAuto
set_option linter.unusedSimpArgs false
set_option linter.unusedVariables false
namespace Go.Proofs.YtfhpjeogjcfkaaaGreat
open Go Go.RowKit
set_option maxRecDepth 100000
set_option maxHeartbeats 20000000
instance Z8j:∀ (p0:(List Q2)) (p1:(List Q2)) (p2:(Q2→Q2→Option Bool)) {p2_f:FuncId} {p2_c:List D} [p2_i:CF2 (fun a0=>(.agg (W4 a0))) (fun a1=>(.agg (W4 a1))) (fun r=>(eB r)) p2 p2_f p2_c],Ct (Q0d p0 p1 p2) fun res=>Z2 Tryz.prog 0o00124 [(.slice 3 (List.map W4 p0)),(.slice 3 (List.map W4 p1)),.clos p2_f p2_c] (fun d=>d=(eB res)):=
 au Tryz.func84 Q0d.eq_1 (.o (.o (.o (.o (.o (.o (.i .z (.ls 0 (.f [] [] [1,2,15,16,17] [] (fun (k66:Nat) (s62:Unit)=>[(17,eI (k66:Int))]) (fun k66 s62=>[]) (fun k66 s62=>.z) (fun s70=>.z))))))))))
instance X7x:∀ (p0:Z7) (p1:Int),Ct (Z6 p0 p1) fun res=>J4 Tryz.prog 0o00165 [⟨2,[(V9 p0)],0,0x00d7⟩] [.ptr 2 0 0 0,(eI p1)] (fun H d=>H=[some ⟨2,[(V9 res.2)],0,0x00d7⟩]∧d=(eI res.1)):=
 au Tryz.func117 Z6.eq_1 (.o (.o (.i .z (.i .z (.i .z (.g [0,1,5] [0] [] [] (.o (.o (.o (.d [0,1,2,3,4,5,6,7,8,9,10,11,12,13,14,15,16,17,18,19,20,21,22,23,24,25,26,27,28,29,30,31,32,33,34,35,36,37,38,39,40,41,42,43,44,45] [0] [] .z))))))))))
instance W67:∀ (p0:(List Q9)) (p1:Int),Ct (Q2h p0 p1) fun res=>Z2 Tryz.prog 0o00450 [(.slice 3 (List.map V4 p0)),(eI p1)] (fun d=>d=(eI res)):=
 au Tryz.func296 Q2h.eq_1 (.o (.o (.ls 0 (.f [] [] [0,1,5] [] (fun (k44:Nat) (s40:Unit)=>[(5,eI (k44:Int))]) (fun k44 s40=>[]) (fun k44 s40=>.z) (fun s48=>.z)))))
instance W6h:∀ (p0:(List ByteArray)) (p1:ByteArray),Ct (Q92 p0 p1) fun res=>Z2 Tryz.prog 0o00552 [(.slice 1 (List.map rS p0)),(eS p1)] (fun d=>d=(eI res)):=
 au Tryz.func362 Q92.eq_1 (.o (.o (.i .z (.ls 0 (.f [] [] [0,1,5] [] (fun (k46:Nat) (s42:Unit)=>[(5,eI (k46:Int))]) (fun k46 s42=>[]) (fun k46 s42=>.z) (fun s50=>.z))))))
instance Z9p:∀ (p0:(List Q6)) (p1:(Q6→Option Bool)) {p1_f:FuncId} {p1_c:List D} [p1_i:CF1 (fun a0=>(.agg (W6 a0))) (fun r=>(eB r)) p1 p1_f p1_c],Ct (Q3o p0 p1) fun res=>Z2 Tryz.prog 0o00367 [(.slice 2 (List.map W6 p0)),.clos p1_f p1_c] (fun d=>d=(eI res)):=
 au Tryz.func247 Q3o.eq_1 (.o (.o (.o (.o (.o (.ls 0 (.f [] [] [0,1,7,8] [] (fun (k54:Nat) (s50:Unit)=>[(8,eI (k54:Int))]) (fun k54 s50=>[]) (fun k54 s50=>.z) (fun s58=>.z))))))))
instance W4e:∀ (p0:(List Q3)) (p1:Q6),Ct (Q1c p0 p1) fun res=>Z2 Tryz.prog 0o00262 [(.slice 2 (List.map W8 p0)),(.agg (W6 p1))] (fun d=>d=(.slice 1 (List.map rI res))):=
 au Tryz.func178 Q1c.eq_1 (.o (.o (.j 2 0 [5] [9000] (fun (s116:(List Int))=>[(5,.sl 1 9000 (s116).length)]) (fun s116=>[(9000,some ⟨1,(List.map rI s116),0,0x0003⟩)]) (.i (.o (.pN 5 1 0x0003 (.ls 16 (.f [5] [112] [3,5,16,17,18] [0,112] (fun (k198:Nat) (s194:(List Int))=>[(5,.sl 1 112 (s194).length),(18,eI (k198:Int))]) (fun k198 s194=>[(112,some ⟨1,(List.map rI s194),0,0x0003⟩)]) (fun k198 s194=>.o (.j 5 0 [3,5,16,17,18] [0,1] (fun (s217:(List Int))=>[(5,.sl 1 1 (s217).length)]) (fun s217=>[(1,some ⟨1,(List.map rI s217),0,0x0003⟩)]) .z (fun _=>.z))) (fun s202=>.z))))) (.pN 5 1 0x0003 .z)) (fun _=>.z))))
instance X0o:∀ (p0:(List Q9)) (p1:Q9),Ct (Q26 p0 p1) fun res=>Z2 Tryz.prog 0o00476 [(.slice 3 (List.map V4 p0)),(.agg (V4 p1))] (fun d=>d=(eI res)):=
 au Tryz.func318 Q26.eq_1 (.o (.o (.ls 0 (.f [] [] [0,3,7,8] [0] (fun (k44:Nat) (s40:Unit)=>[(8,eI (k44:Int))]) (fun k44 s40=>[]) (fun k44 s40=>.o (.g [0,3,5,7,8] [0] [] [] (.d [0,1,2,3,4,5] [0] [] .z))) (fun s48=>.z)))))
theorem Q9p (p0:(List Q0))(res:(List Q0))(h:J5 p0=some res):J4 Tryz.prog 0o00177 [] [(.slice 6 (List.map Z0 p0))] (fun H d=>H=[some ⟨6,List.map Z0 res,0,0x0064⟩]∧d=.sl 6 0 res.length):=by
 unfold J5 at h
 refine CH Tryz.func127 [.tmp 2] 0 fun β hβ=>?_
 refine sZ ?_
 apply sq
 refine sk fun K hK=>?_
 simp
 refine ⟨?_,fun hnil=>?_⟩
 ·apply hK
  refine cF ?_
  apply TrD.skip
  apply sq
  obtain ⟨x3,hx3,h⟩:=bindE h
  have hx3_r:=(Q87 hx3).2
  try simp only [U4,Nat.zero_add] at hx3_r
  obtain hhx3:=Z77 hx3
  subst hhx3
  refine rZ ?_ fun K hK=>by simp [hx3_r];exact hK
  cases h
  apply TrD.ret
  refine Z4i (σ':=⟨(updD (fun _=>.any) 2 (.sl 6 0 (p0).length)),hOfO [some ⟨6,(List.map Z0 p0),0,0x0064⟩],1,8⟩) ?_ ?_
  ·exact gC [40]
  dsimp only [resD]
  exact eA
 replace h:some ([])=some res:=by simp only [hnil] at h;simpa [app] using h
 apply hK
 refine cT ?_
 refine sZ ?_
 cases h
 apply TrD.ret
 refine Z4i (σ':=⟨(updD (fun _=>.any) 2 (.sl 6 0 0)),hOfO [some ⟨6,(List.map Z0 []),0,0x0064⟩],1,8⟩) ?_ ?_
 ·refine (V3.ownNil (s:=2) (by simp) 6 0x0064).trans ?_
  exact gC [32]
 dsimp only [resD]
 exact eA
instance X0r:∀ (p0:(List Q0)),Ct (J5 p0) fun res=>J4 Tryz.prog 0o00177 [] [(.slice 6 (List.map Z0 p0))] (fun H d=>H=[some ⟨6,List.map Z0 res,0,0x0064⟩]∧d=.sl 6 0 res.length):=fun p0=>⟨Q9p p0⟩
instance X9p:∀ (p0:(List Int)) (p1:Q6),Ct (Q3u p0 p1) fun res=>Z2 Tryz.prog 0o00323 [.cptr (List.map cI p0),(.agg (W6 p1))] (fun d=>d=(eI res)):=
 au Tryz.func211 Q3u.eq_1 (.o (.o (.i .z (.g [0,3] [0] [] [] (.o (.d [0,1,2,3,4,5,6,7,8,9] [0] [] .z))))))
instance Z0q:∀ (n:Nat) (p0:(List Q1)) (p1:Int) (p2:Int) (p3:(Q1→Q1→Option Int)) {p3_f:FuncId} {p3_c:List D} [p3_i:CF2 (fun a0=>(.agg (Q7 a0))) (fun a1=>(.agg (Q7 a1))) (fun r=>(eI r)) p3 p3_f p3_c],Ct (V1 n p0 p1 p2 p3) fun res=>J4 Tryz.prog 0o00374 [⟨2,List.map Q7 p0,0,0x0095⟩] [.sl 2 0 p0.length,(eI p1),(eI p2),.clos p3_f p3_c] (fun H d=>H=[some ⟨2,List.map Q7 res,0,0x0095⟩]∧d=.tup []):=
 au Tryz.func252 V1.eq_1 (.o (.o (.o (.o (.o (.o (.o (.o (.w [] [0] [0,1,2,3,8] [0] (fun (s464:(List Q1)×Int)=>[(0,.sl 2 0 (s464.1).length),(8,eI s464.2)]) (fun s464=>[(0,some ⟨2,(List.map Q7 s464.1),0,0x0095⟩)]) (fun s464=>.i (.w [0,1,2,3,8] [0] [0,1,2,3,8,9] [0] (fun (s660:(List Q1)×Int)=>[(0,.sl 2 0 (s660.1).length),(9,eI s660.2)]) (fun s660=>[(0,some ⟨2,(List.map Q7 s660.1),0,0x0095⟩)]) (fun s660=>.g [0,1,2,3,8,9] [0] [] [] (.i (.o (.o (.o (.d [0,1,2,3,4,5,6,7,8,9,10,11,12,13,14,15,16] [0] [] (.i (.g [0,1,2,3,8,9] [0] [] [] (.o (.o (.o (.d [0,1,2,3,4,5,6,7,8,9,10,11,12,13,14,15,16,17] [0] [51,52] .z))))) .z))))) (.d [0,1,2,3,4,5,6,7,8,9,10,11,12,13,14,15,16] [] [] .z))) (fun s668=>.z)) .z) (fun s472=>.z))))))))))
instance W27:∀ (p0:Int),Ct (Q4f p0) fun res=>Z2 Tryz.prog 0o00274 [(eI p0)] (fun d=>d=(eB res)):=
 au Tryz.func188 Q4f.eq_1 .z
instance Z9t:∀ (p0:Grow) (q0:Grow),Ct (Y9 p0 q0) fun res=>Z2 Tryz.prog 0o00327 [(.agg (Q3j p0)),.cptr (Q3j q0)] (fun d=>d=(eB res)):=
 au Tryz.func215 Y9.eq_1 .z
instance Z9q:∀ (p0:(List V5)) (p1:(V5→Option Bool)) {p1_f:FuncId} {p1_c:List D} [p1_i:CF1 (fun a0=>(.agg (Q48 a0))) (fun r=>(eB r)) p1 p1_f p1_c],Ct (Q0w p0 p1) fun res=>Z2 Tryz.prog 0o00276 [(.slice 4 (List.map Q48 p0)),.clos p1_f p1_c] (fun d=>d=(eI res)):=
 au Tryz.func190 Q0w.eq_1 (.o (.o (.o (.o (.o (.ls 0 (.f [] [] [0,1,7,8] [] (fun (k54:Nat) (s50:Unit)=>[(8,eI (k54:Int))]) (fun k54 s50=>[]) (fun k54 s50=>.z) (fun s58=>.z))))))))
instance W5s:Ct (Q73) fun res=>Z2 Tryz.prog 0o00170 [] (fun d=>d=(eI res)):=
 au Tryz.func120 Q73.eq_1 .z
instance W3k:∀ (p0:(List Q1)),Ct (Q3w p0) fun res=>Z2 Tryz.prog 0o00167 [(.slice 2 (List.map Q7 p0))] (fun d=>d=(.slice 2 (List.map Q7 res))):=
 au Tryz.func119 Q3w.eq_1 (.o (.ls 0 (.f [3] [8] [0,3,4] [8] (fun (k56:Nat) (s52:(List Q1))=>[(3,.sl 2 8 (s52).length),(4,eI (k56:Int))]) (fun k56 s52=>[(8,some ⟨2,(List.map Q7 s52),0,0x0095⟩)]) (fun k56 s52=>.o (.g [0,3,4] [0] [] [] (.o (.o (.d [0,1,2,3,4,5,7,8,9,10,11,6,12,13,14,15,16] [] [] (.pF 9 .z)))))) (fun s60=>.z))))
instance W8e:Ct (Q3g) fun res=>Z2 Tryz.prog 0o00253 [] (fun d=>d=(.agg (Z0 res))):=
 au Tryz.func171 Q3g.eq_1 .z
end Go.Proofs.YtfhpjeogjcfkaaaGreat
