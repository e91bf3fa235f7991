import Derived.Test.YtjgapphpbkapmaaGreatJMir
import Derived.Test.YtjgapphpbkapmaaGreatJAuto
set_option linter.unusedSimpArgs false
set_option linter.unusedVariables false
namespace Go.Proofs.YtjgapphpbkapmaaGreat
open Go Go.RowKit
set_option maxRecDepth 100000
set_option maxHeartbeats 20000000
instance W6x:∀ (p0:(List Int)),Ct (Q2u p0) fun res=>J0 Tryz.prog 0o00106 [] [(.slice 1 (List.map (rK .u8) p0))] (fun H d=>H=[some ⟨2,[(Y1 res)],0,0x00c5⟩]∧d=.ptr 2 0 0 0):=
 au Tryz.func70 Q2u.eq_1 (.o (.j 1 0 [0] [] (fun (s3:(List Int))=>[(0,.slice 1 (List.map (rK .u8) s3))]) (fun _=>[]) .z (fun _=>.z)))
instance W0m:∀ (p0:X0) (p1:Int),Ct (Z8 p0 p1) fun res=>J0 Tryz.prog 0o00157 [⟨2,[(Y1 p0)],0,0x00c5⟩] [.ptr 2 0 0 0,(eI p1)] (fun H d=>H=[some ⟨2,[(Y1 res.2)],0,0x00c5⟩]∧d=(eI res.1)):=
 au Tryz.func111 Z8.eq_1 (.o (.o (.i .z (.i .z (.i .z (.g [0,1,5] [0] [] [] (.o (.o (.o (.d [0,1,2,3,4,5,6,7,8,9,10,11,12,13,14,15,16,17,18,19,20,21,22,23,24,25,26,27,28,29,30,31,32,33,34,35,36,37,38,39,40,41,42,43,44,45] [0] [] .z))))))))))
instance V1f:∀ (p0:Int) (p1:Q4),Ct (Q99 p0 p1) fun res=>Z2 Tryz.prog 0o00404 [(eI p0),(.agg (W0 p1))] (fun d=>d=(eB res)):=
 au Tryz.func260 Q99.eq_1 .z
instance X1o:∀ (p0:(List Q4)) (p1:(Q4→Option Bool)) {p1_f:FuncId} {p1_c:List D} [p1_i:CF1 (fun a0=>(.agg (W0 a0))) (fun r=>(eB r)) p1 p1_f p1_c],Ct (Q4e p0 p1) fun res=>Z2 Tryz.prog 0o00317 [(.slice 2 (List.map W0 p0)),.clos p1_f p1_c] (fun d=>d=(eI res)):=
 au Tryz.func207 Q4e.eq_1 (.o (.o (.o (.o (.o (.ls 0 (.f [] [] [0,1,7,8] [] (fun (k54:Nat) (s50:Unit)=>[(8,eI (k54:Int))]) (fun k54 s50=>[]) (fun k54 s50=>.z) (fun s58=>.z))))))))
theorem Z0x (p0:(List Q0)) (res:(List Q0)) (h:Q01 p0=some res):J0 Tryz.prog 0o00171 [] [(.slice 6 (List.map Z0 p0))] (fun H d=>H=[some ⟨6,List.map Z0 res,0,0x0060⟩]∧d=.sl 6 0 res.length):=by
 unfold Q01 at h
 refine CH Tryz.func121 [.tmp 2] 0 fun β hβ=>?_
 refine sZ ?_
 apply sq
 refine sk fun K hK=>?_
 simp
 refine ⟨?_,fun hnil=>?_⟩
 ·apply hK
  refine cF ?_
  apply TrD.skip
  apply sq
  obtain ⟨x3,hx3,h⟩:=bindE h
  have hx3_r:=(Q86 hx3).2
  try simp only [U4,Nat.zero_add] at hx3_r
  obtain hhx3:=Z5i hx3
  subst hhx3
  refine rZ ?_ fun K hK=>by simp [hx3_r];exact hK
  cases h
  apply TrD.ret
  refine Z2e (σ':=⟨(updD (fun _=>.any) 2 (.sl 6 0 (p0).length)),hOfO [some ⟨6,(List.map Z0 p0),0,0x0060⟩],1,8⟩) ?_ ?_
  ·exact gC [40]
  dsimp only [resD]
  exact eA
 replace h:some ([])=some res:=by simp only [hnil] at h;simpa [app] using h
 apply hK
 refine cT ?_
 refine sZ ?_
 cases h
 apply TrD.ret
 refine Z2e (σ':=⟨(updD (fun _=>.any) 2 (.sl 6 0 0)),hOfO [some ⟨6,(List.map Z0 []),0,0x0060⟩],1,8⟩) ?_ ?_
 ·refine (V0.ownNil (s:=2) (by simp) 6 0x0060).trans ?_
  exact gC [32]
 dsimp only [resD]
 exact eA
instance X2u:∀ (p0:(List Q0)),Ct (Q01 p0) fun res=>J0 Tryz.prog 0o00171 [] [(.slice 6 (List.map Z0 p0))] (fun H d=>H=[some ⟨6,List.map Z0 res,0,0x0060⟩]∧d=.sl 6 0 res.length):=fun p0=>⟨Z0x p0⟩
instance W0t:Ct (Q2z) fun res=>Z2 Tryz.prog 0o00170 [] (fun d=>d=(.agg (Z0 res))):=
 au Tryz.func120 Q2z.eq_1 .z
instance W2f:∀ (p0:(List Int)) (p1:Q4),Ct (Q4p p0 p1) fun res=>Z2 Tryz.prog 0o00277 [.cptr (List.map cI p0),(.agg (W0 p1))] (fun d=>d=(eI res)):=
 au Tryz.func191 Q4p.eq_1 (.o (.o (.i .z (.g [0,3] [0] [] [] (.o (.d [0,1,2,3,4,5,6,7,8,9] [0] [] .z))))))
instance X2s:∀ (p0:(List Grow)) (p1:(Grow→Option Bool)) {p1_f:FuncId} {p1_c:List D} [p1_i:CF1 (fun a0=>(.agg (Q4b a0))) (fun r=>(eB r)) p1 p1_f p1_c],Ct (Q1s p0 p1) fun res=>Z2 Tryz.prog 0o00361 [(.slice 3 (List.map Q4b p0)),.clos p1_f p1_c] (fun d=>d=(eI res)):=
 au Tryz.func241 Q1s.eq_1 (.o (.o (.o (.o (.o (.ls 0 (.f [] [] [0,1,7,8] [] (fun (k54:Nat) (s50:Unit)=>[(8,eI (k54:Int))]) (fun k54 s50=>[]) (fun k54 s50=>.z) (fun s58=>.z))))))))
instance X6y:∀ (p0:X8) (q0:Q2i),Ct (Q23 p0 q0) fun res=>Z2 Tryz.prog 0o00251 [(.agg (Q1m p0)),.cptr (Q77 q0)] (fun d=>d=(eB res)):=
 au Tryz.func169 Q23.eq_1 .z
instance Z7t:∀ (p0:(List Q2)) (p1:(Q2→Option Bool)) {p1_f:FuncId} {p1_c:List D} [p1_i:CF1 (fun a0=>(.agg (Z3 a0))) (fun r=>(eB r)) p1 p1_f p1_c],Ct (Q0p p0 p1) fun res=>Z2 Tryz.prog 0o00311 [(.slice 2 (List.map Z3 p0)),.clos p1_f p1_c] (fun d=>d=(eI res)):=
 au Tryz.func201 Q0p.eq_1 (.o (.o (.o (.o (.o (.ls 0 (.f [] [] [0,1,7,8] [] (fun (k54:Nat) (s50:Unit)=>[(8,eI (k54:Int))]) (fun k54 s50=>[]) (fun k54 s50=>.z) (fun s58=>.z))))))))
instance W6z:∀ (p0:Q1),Ct (Q7f p0) fun res=>Z2 Tryz.prog 0o00313 [(.agg (X1 p0))] (fun d=>d=(eB res)):=
 au Tryz.func203 Q7f.eq_1 .z
instance W4c:∀ (p0:(List Q9)) (p1:Q1),Ct (Q53 p0 p1) fun res=>Z2 Tryz.prog 0o00223 [(.slice 9 (List.map J5 p0)),(.agg (X1 p1))] (fun d=>d=.tup [(.agg (Q2s res.1)),(eB res.2)]):=
 au Tryz.func147 Q53.eq_1 (.o (.o (.ls 0 (.f [4] [8] [0,3,4,6] [0,8] (fun (k159:Nat) (s155:Unit)=>[(6,eI (k159:Int))]) (fun k159 s155=>[]) (fun k159 s155=>.o (.j 4 0 [0,3,4,6] [0,1] (fun (s175:Unit)=>[]) (fun _=>[]) .z (fun _=>.z))) (fun s163=>.z)))))
instance W6c:∀ (p0:(List V9)) (p1:Int),Ct (Q3l p0 p1) fun res=>Z2 Tryz.prog 0o00353 [(.slice 3 (List.map Q29 p0)),(eI p1)] (fun d=>d=(.slice 3 (List.map Q29 res))):=
 au Tryz.func235 Q3l.eq_1 (.o (.o (.ls 0 (.f [5] [8] [0,1,5,6] [8] (fun (k71:Nat) (s67:(List V9))=>[(5,.sl 3 8 (s67).length),(6,eI (k71:Int))]) (fun k71 s67=>[(8,some ⟨3,(List.map Q29 s67),0,0x0125⟩)]) (fun k71 s67=>.o (.j 5 0 [0,1,5,6] [0] (fun (s78:(List V9))=>[(5,.sl 3 0 (s78).length)]) (fun s78=>[(0,some ⟨3,(List.map Q29 s78),0,0x0125⟩)]) .z (fun _=>.z))) (fun s75=>.z)))))
instance V1a:∀ (p0:(List V9)) (p1:Int) (p2:Int),Ct (Q6e p0 p1 p2) fun res=>Z2 Tryz.prog 0o00430 [(.slice 3 (List.map Q29 p0)),(eI p1),(eI p2)] (fun d=>d=(eB res)):=
 au Tryz.func280 Q6e.eq_1 (.o (.o (.o (.ls 0 (.f [] [] [0,1,2,7] [] (fun (k139:Nat) (s135:Unit)=>[(7,eI (k139:Int))]) (fun k139 s135=>[]) (fun k139 s135=>.o (.j 4 0 [0,1,2,7] [] (fun (s153:Unit)=>[]) (fun _=>[]) .z (fun _=>.z))) (fun s143=>.z))))))
instance W6f:∀ (n:Nat) (p0:(List Q2)),Ct (Q3o n p0) fun res=>Z2 Tryz.prog 0o00256 [(.slice 2 (List.map Z3 p0))] (fun d=>d=(.slice 2 (List.map Z3 res))):=
 au Tryz.func174 Q3o.eq_1 (.o (.o (.w [3] [8] [0,3,4] [8] (fun (s496:(List Q2)×Int)=>[(3,.sl 2 8 (s496.1).length),(4,eI s496.2)]) (fun s496=>[(8,some ⟨2,(List.map Z3 s496.1),0,0x008b⟩)]) (fun s496=>.i (.ls 0 (.f [0,3,4] [0] [0,3,4,5] [0] (fun (k587:Nat) (s583:(List Q2))=>[(3,.sl 2 0 (s583).length),(5,eI (k587:Int))]) (fun k587 s583=>[(0,some ⟨2,(List.map Z3 s583),0,0x008b⟩)]) (fun k587 s583=>.o (.j 8 0 [0,3,4,5] [0] (fun (s595:(List Q2))=>[(3,.sl 2 0 (s595).length)]) (fun s595=>[(0,some ⟨2,(List.map Z3 s595),0,0x008b⟩)]) (.i (.o (.o (.pF 153 .z))) .z) (fun _=>.z))) (fun s591=>.z))) .z) (fun s504=>.z))))
end Go.Proofs.YtjgapphpbkapmaaGreat
