import Derived.Test.YtfhpjeogjcfkaaaGreatSJMir
import Derived.Test.YtfhpjeogjcfkaaaGreatSJAuto
set_option linter.unusedSimpArgs false
set_option linter.unusedVariables false
namespace Go.Proofs.YtfhpjeogjcfkaaaGreat
open Go Go.RowKit
set_option maxRecDepth 100000
set_option maxHeartbeats 20000000
instance W8w:∀ (p0:Int) (p1:Int) (p2:Int),Ct (V2 p0 p1 p2) fun res=>Q6 Tryz.prog 0o00071 [(eI p0),(eI p1),(eI p2)] (fun d=>d=(eB res)):=
 au Tryz.func57 V2.eq_1 .z
theorem Z08 (p0:(List Q0))(res:(List Q0))(h:Y1 p0=some res):Q19 Tryz.prog 0o00177 [] [(.slice 6 (List.map Q2 p0))] (fun H d=>H=[some ⟨6,List.map Q2 res,0,0x0064⟩]∧d=.sl 6 0 res.length):=by
 unfold Y1 at h
 refine CH Tryz.func127 [.tmp 2] 0 fun β hβ=>?_
 refine sZ ?_
 apply sq
 refine sk fun K hK=>?_
 simp
 refine ⟨?_,fun hnil=>?_⟩
 ·apply hK
  refine cF ?_
  apply TrD.skip
  apply sq
  obtain ⟨x3,hx3,h⟩:=bindE h
  have hx3_r:=(Z1i hx3).2
  try simp only [U4,Nat.zero_add] at hx3_r
  obtain hhx3:=X7p hx3
  subst hhx3
  refine rZ ?_ fun K hK=>by simp [hx3_r];exact hK
  cases h
  apply TrD.ret
  refine X9e (σ':=⟨(updD (fun _=>.any) 2 (.sl 6 0 (p0).length)),hOfO [some ⟨6,(List.map Q2 p0),0,0x0064⟩],1,8⟩) ?_ ?_
  ·exact gC [40]
  dsimp only [resD]
  exact eA
 replace h:some ([])=some res:=by simp only [hnil] at h;simpa [app] using h
 apply hK
 refine cT ?_
 refine sZ ?_
 cases h
 apply TrD.ret
 refine X9e (σ':=⟨(updD (fun _=>.any) 2 (.sl 6 0 0)),hOfO [some ⟨6,(List.map Q2 []),0,0x0064⟩],1,8⟩) ?_ ?_
 ·refine (V9.ownNil (s:=2) (by simp) 6 0x0064).trans ?_
  exact gC [32]
 dsimp only [resD]
 exact eA
instance X27:∀ (p0:(List Q0)),Ct (Y1 p0) fun res=>Q19 Tryz.prog 0o00177 [] [(.slice 6 (List.map Q2 p0))] (fun H d=>H=[some ⟨6,List.map Q2 res,0,0x0064⟩]∧d=.sl 6 0 res.length):=fun p0=>⟨Z08 p0⟩
instance W0j:∀ (n:Nat) (p0:Q0),Ct (Q1c n p0) fun res=>Q6 Tryz.prog 0o00437 [(.agg (Q2 p0))] (fun d=>d=(.agg (Q2 res))):=
 ar (au Tryz.func287 Q1c.eq_2 (.o (.o (.b fun (p0:Q0)=>.pC 0 5 6 0x0064 (.ls 7 (.f [1,2] [0,80,8] [1,2,9,10,11] [0,80,8] (fun (k56:Nat) (s52:(List Q0))=>[(11,eI (k56:Int))]) (fun k56 s52=>[(1000000000,some ⟨6,[[(eI p0.op),(eI p0.ctor),(eI p0.n),(eI p0.m),(eI p0.var),(.sl 6 80 (s52).length)]],0,0x0064⟩),(80,some ⟨6,(List.map Q2 s52),0,0x0064⟩)]) (fun k56 s52=>.o (.g [1,2,5,9,10,11] [0,1,2,27] [] [(1000000000,some ⟨6,[[(eI p0.op),(eI p0.ctor),(eI p0.n),(eI p0.m),(eI p0.var),(.sl 6 1 (s52).length)]],0,0x0064⟩)] (.o (.o (.d [0,1,2,3,4,5,6,7] [0,3] [21] .z))))) (fun s60=>.z)))))))
instance Z96:∀ (p0:(List Q5)) (p1:(Q5→Option Bool)) {p1_f:FuncId} {p1_c:List D} [p1_i:CF1 (fun a0=>(.agg (X4 a0))) (fun r=>(eB r)) p1 p1_f p1_c],Ct (Q3u p0 p1) fun res=>Q6 Tryz.prog 0o00310 [(.slice 9 (List.map X4 p0)),.clos p1_f p1_c] (fun d=>d=(eI res)):=
 au Tryz.func200 Q3u.eq_1 (.o (.o (.o (.o (.o (.ls 0 (.f [] [] [0,1,7,8] [] (fun (k54:Nat) (s50:Unit)=>[(8,eI (k54:Int))]) (fun k54 s50=>[]) (fun k54 s50=>.z) (fun s58=>.z))))))))
instance W0k:∀ (n:Nat) (p0:Q0),Ct (Q1d n p0) fun res=>Q6 Tryz.prog 0o00172 [(.agg (Q2 p0))] (fun d=>d=(eI res)):=
 ar (au Tryz.func122 Q1d.eq_2 (.o (.o (.o (.j 2 0 [1,3] [0] (fun (s2:Int)=>[(3,eI s2)]) (fun _=>[]) .z (fun s2=>.ls 10 (.f [3] [] [1,3,10,11,12] [0] (fun (k86:Nat) (s82:Int)=>[(3,eI s82),(12,eI (k86:Int))]) (fun k86 s82=>[]) (fun k86 s82=>.o (.j 6 0 [1,3,10,11,12] [0] (fun (s94:Int)=>[(3,eI s94)]) (fun _=>[]) .z (fun _=>.z))) (fun s90=>.z))))))))
instance W90:∀ (p0:Int),Ct (Q4p p0) fun res=>Q6 Tryz.prog 0o00263 [(eI p0)] (fun d=>d=(.agg (Z5 res))):=
 au Tryz.func179 Q4p.eq_1 .z
instance W4q:∀ (n:Nat) (p0:Q3),Ct (Q2c n p0) fun res=>Q6 Tryz.prog 0o00134 [(.agg (Z5 p0))] (fun d=>d=(.agg (Z5 res))):=
 ar (au Tryz.func92 Q2c.eq_2 (.o (.o (.b fun (p0:Q3)=>.pC 56 2 3 0x001d (.ls 12 (.f [2,3] [8,56,104] [2,3,12,13,14] [8,56,104] (fun (k56:Nat) (s52:(List Q3))=>[(14,eI (k56:Int))]) (fun k56 s52=>[(1000000056,some ⟨3,[[(eI p0.ctor),(eI p0.n),(.sl 3 104 (s52).length)]],0,0x001d⟩),(104,some ⟨3,(List.map Z5 s52),0,0x001d⟩)]) (fun k56 s52=>.o (.g [2,3,5,12,13,14] [0,1,2,27] [] [(1000000001,some ⟨3,[[(eI p0.ctor),(eI p0.n),(.sl 3 2 (s52).length)]],0,0x001d⟩)] (.o (.o (.d [0,1,2,3,4,5,6,7] [1,3] [24] .z))))) (fun s60=>.z)))))))
instance V0u:∀ (p0:(List Int)) (p1:Int),Ct (Q59 p0 p1) fun res=>Q6 Tryz.prog 0o00304 [(.slice 1 (List.map rI p0)),(eI p1)] (fun d=>d=(eB res)):=
 au Tryz.func196 Q59.eq_1 (.o (.o (.ls 0 (.f [] [] [0,1,5] [] (fun (k44:Nat) (s40:Unit)=>[(5,eI (k44:Int))]) (fun k44 s40=>[]) (fun k44 s40=>.z) (fun s48=>.z)))))
instance W8e:∀ (p0:Int),Ct (Q6l p0) fun res=>Q6 Tryz.prog 0o00523 [(eI p0)] (fun d=>d=(eI res)):=
 au Tryz.func339 Q6l.eq_1 .z
instance V0w:∀ (p0:Int) (p1:Q1),Ct (Q8l p0 p1) fun res=>Q6 Tryz.prog 0o00444 [(eI p0),(.agg (Z2 p1))] (fun d=>d=(eB res)):=
 au Tryz.func292 Q8l.eq_1 .z
instance W6c:∀ (n:Nat) (p0:(List X3)) (p1:Q0) (p2:Q3),Ct (Q24 n p0 p1 p2) fun res=>Q6 Tryz.prog 0o00256 [(.slice 4 (List.map Q11 p0)),(.agg (Q2 p1)),(.agg (Z5 p2))] (fun d=>d=.tup [(.slice 4 (List.map Q11 res.1)),(eB res.2)]):=
 ar (au Tryz.func174 Q24.eq_2 (.o (.o (.o (.b fun (p1:Q0)=>.o (.i .z (.i (.g [0,4,5] [0,8] [] [] (.o (.o (.dz [1,3,4,5,6,0,2,7,8,9,10] [0,1] [1048603] [] .z)))) (.i (.g [0,4,5] [0,8] [] [] (.i (.d [0,1,2,3,4,5,6,7,8,9,10,11,12,13,14] [0,1] [] .z) (.d [0,1,2,3,4,5,6,7,8,9,10,11,12,13,14] [0,1] [] .z))) (.i (.g [0,4,5] [0,8] [] [] (.o (.o (.d [0,1,2,3,4,5,6,7,8,9,10,11] [0,1] [] (.i .z (.g [0,4,5] [0,1] [] [] (.o (.o (.d [0,1,2,3,4,5,6,7,8,9,10] [0,1] [] .z))))))))) (.i (.g [0,4,5] [0,8] [] [] (.o (.o (.o (.o (.dz [1,3,4,5,6,9,10,11,12,13,0,2,7,8,14,15,16,17,18] [0,1] [1048652] [] .z)))))) (.i .z (.lc 0 5 6 Q2 p1.kids (.f [0] [] [0,4,5,10] [0,8] (fun (k116:Nat) (s112:(List X3))=>[(0,.slice 4 (List.map Q11 s112)),(10,eI (k116:Int))]) (fun k116 s112=>[]) (fun k116 s112=>.o (.g [0,4,5,10] [0,1] [] [] (.o (.o (.d [0,1,2,3,4,5,6,7,8,9,10,11,12,13,14,15,16] [0,1] [] .z))))) (fun s120=>.z))))))))))))))
instance W8n:∀ (p0:Q1),Ct (Q9n p0) fun res=>Q6 Tryz.prog 0o00466 [(.agg (Z2 p0))] (fun d=>d=(eI res)):=
 au Tryz.func310 Q9n.eq_1 .z
instance W8u:∀ (n:Nat) (p0:Int),Ct (Q6o n p0) fun res=>Q6 Tryz.prog 0o00554 [(eI p0)] (fun d=>d=(eS res)):=
 ar (au Tryz.func364 Q6o.eq_2 (.o (.o (.o (.i .z (.i .z (.w [0,3] [] [0,3] [] (fun (s18:Int×ByteArray)=>[(0,eI s18.1),(3,eS s18.2)]) (fun s18=>[]) (fun s18=>.z) (fun s26=>.z))))))))
end Go.Proofs.YtfhpjeogjcfkaaaGreat
