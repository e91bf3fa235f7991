import Derived.Test.YtjgapphpbkapmaaGreatJMir
import Derived.Test.YtjgapphpbkapmaaGreatJAuto
set_option linter.unusedSimpArgs false
set_option linter.unusedVariables false
namespace Go.Proofs.YtjgapphpbkapmaaGreat
open Go Go.RowKit
set_option maxRecDepth 100000
set_option maxHeartbeats 20000000
instance W9c:∀ (n:Nat) (p0:ByteArray) (p1:Int),Ct (Q3c n p0 p1) fun res=>Z2 Tryz.prog 0o00432 [(eS p0),(.val (.int .u8 p1))] (fun d=>d=(.slice 1 (List.map rS res))):=
 au Tryz.func282 Q3c.eq_1 (.o (.o (.o (.w [5] [8] [0,1,5,6,7] [8] (fun (s203:(List ByteArray)×Int×Int)=>[(5,.sl 1 8 (s203.1).length),(6,eI s203.2.1),(7,eI s203.2.2)]) (fun s203=>[(8,some ⟨1,(List.map rS s203.1),0,0x0009⟩)]) (fun s203=>.i (.j 6 0 [0,1,5,6,7] [0] (fun (s230:(List ByteArray)×Int)=>[(5,.sl 1 0 (s230.1).length),(6,eI s230.2)]) (fun s230=>[(0,some ⟨1,(List.map rS s230.1),0,0x0009⟩)]) .z (fun _=>.z)) .z) (fun s211=>.z)))))
instance W97:∀ (p0:(List ByteArray)) (p1:ByteArray),Ct (Z07 p0 p1) fun res=>Z2 Tryz.prog 0o00460 [(.slice 1 (List.map rS p0)),(eS p1)] (fun d=>d=(eI res)):=
 au Tryz.func304 Z07.eq_1 (.o (.o (.i .z (.ls 0 (.f [] [] [0,1,5] [] (fun (k46:Nat) (s42:Unit)=>[(5,eI (k46:Int))]) (fun k46 s42=>[]) (fun k46 s42=>.z) (fun s50=>.z))))))
instance W9b:∀ (n:Nat) (p0:Int),Ct (Q6u n p0) fun res=>Z2 Tryz.prog 0o00462 [(eI p0)] (fun d=>d=(eS res)):=
 ar (au Tryz.func306 Q6u.eq_2 (.o (.o (.o (.i .z (.i .z (.w [0,3] [] [0,3] [] (fun (s18:Int×ByteArray)=>[(0,eI s18.1),(3,eS s18.2)]) (fun s18=>[]) (fun s18=>.z) (fun s26=>.z))))))))
instance W6s:Ct (Q4t) fun res=>Z2 Tryz.prog 0o00367 [] (fun d=>d=(.slice 1 (List.map rS res))):=
 au Tryz.func247 Q4t.eq_1 .z
instance W96:∀ (p0:Q7r) (p1:Int),Ct (Z06 p0 p1) fun res=>Z2 Tryz.prog 0o00345 [(.agg (Q6m p0)),(eI p1)] (fun d=>d=(eB res)):=
 au Tryz.func229 Z06.eq_1 .z
instance W4j:∀ (p0:Q7r) (p1:Int),Ct (Q8m p0 p1) fun res=>Z2 Tryz.prog 0o00346 [(.agg (Q6m p0)),(eI p1)] (fun d=>d=(eI res)):=
 au Tryz.func230 Q8m.eq_1 .z
instance V39:∀ (p0:Q0) (p1:Bool) (p2:Bool) (p3:Bool) (p4:Int),Ct (Q3w p0 p1 p2 p3 p4) fun res=>Z2 Tryz.prog 0o00445 [(.agg (Z0 p0)),(eB p1),(eB p2),(eB p3),(eI p4)] (fun d=>d=(eB res)):=
 au Tryz.func293 Q3w.eq_1 .z
instance X8t:∀ (p0:(List Int)) (p1:Int),Ct (Q50 p0 p1) fun res=>Z2 Tryz.prog 0o00315 [(.slice 1 (List.map rI p0)),(eI p1)] (fun d=>d=(eI res)):=
 au Tryz.func205 Q50.eq_1 (.o (.o (.ls 0 (.f [] [] [0,1,7,8] [] (fun (k44:Nat) (s40:Unit)=>[(8,eI (k44:Int))]) (fun k44 s40=>[]) (fun k44 s40=>.z) (fun s48=>.z)))))
instance W4w:∀ (p0:(List Q3)) (p1:Q4) (p2:Int),Ct (Q12 p0 p1 p2) fun res=>Z2 Tryz.prog 0o00176 [(.slice 2 (List.map W2 p0)),(.agg (W0 p1)),(eI p2)] (fun d=>d=(.slice 2 (List.map W0 res))):=
 au Tryz.func126 Q12.eq_1 (.o (.o (.o (.o (.o (.j 3 0 [7,8] [88] (fun (s4:Int)=>[(8,eI s4)]) (fun _=>[]) .z (fun s4=>.pN 9 2 0x0019 (.ls 28 (.f [9] [41] [8,9,28,29,30] [41] (fun (k103:Nat) (s99:(List Q4))=>[(9,.sl 2 41 (s99).length),(30,eI (k103:Int))]) (fun k103 s99=>[(41,some ⟨2,(List.map W0 s99),0,0x0019⟩)]) (fun k103 s99=>.b fun (x104:Q4)=>.j 9 0 [8,9,11,28,29,30] [0,25] (fun (s115:Int)=>[]) (fun s115=>[(25,some ⟨2,[[(eI x104.data),(eI s115)]],0,0x0019⟩)]) .z (fun _=>.z)) (fun s107=>.z))))))))))
instance Z94:∀ (p0:(List Z1)) (p1:(Z1→Option Bool)) {p1_f:FuncId} {p1_c:List D} [p1_i:CF1 (fun a0=>(.agg (Y2 a0))) (fun r=>(eB r)) p1 p1_f p1_c],Ct (Q35 p0 p1) fun res=>Z2 Tryz.prog 0o00456 [(.slice 3 (List.map Y2 p0)),.clos p1_f p1_c] (fun d=>d=(eI res)):=
 au Tryz.func302 Q35.eq_1 (.o (.o (.o (.o (.o (.ls 0 (.f [] [] [0,1,7,8] [] (fun (k54:Nat) (s50:Unit)=>[(8,eI (k54:Int))]) (fun k54 s50=>[]) (fun k54 s50=>.z) (fun s58=>.z))))))))
set_option maxRecDepth 100000 in
theorem Z0m (p0:(List Q2)) (res:(List Q2)) (h:Q09 p0=some res):J0 Tryz.prog 0o00166 [] [(.slice 2 (List.map Z3 p0))] (fun H d=>H=[some ⟨2,List.map Z3 res,0,0x008b⟩]∧d=.sl 2 0 res.length):=by
  unfold Q09 at h
  refine J0.of (res:=[.tmp 2]) Q2m Tryz.func118 (by decide) rfl (Nat.le_of_ble_eq_true rfl) rfl rfl (fun β hβ=>?_)
  refine TrD.seq ?_
  refine TrD.regK Q2m (fun K hK=>?_)
  simp
  refine hK _ ?_
  refine TrD.seq ?_
  refine TrD.seq ?_
  refine TrD.regK Q2m (fun K hK=>?_)
  simp
  refine ⟨?_,fun hnil=>?_⟩
  · refine hK _ ?_
    refine TrD.cond (b:=false) (by simp) (fun hb=>by cases hb) (fun hb=>?_)
    refine TrD.skip ?_
    refine TrD.seq ?_
    obtain ⟨x3,hx3,h⟩:=bindE h
    have hx3_r:=(Q86 hx3).2
    try simp only [U5,U3,U4,U7,Nat.zero_add,Nat.add_zero,Nat.reduceAdd,Z2o,Z2g] at hx3_r
    obtain hhx3:=Z5i hx3
    subst hhx3
    refine TrD.regK Q2m (fun K hK=>?_)
    simp [hx3_r]
    refine hK _ ?_
    obtain rfl:=Option.some.inj h
    refine TrD.ret ?_
    refine Z2e (σ':=⟨(updD (fun _=>.any) 2 (.sl 2 0 (p0).length)),hOfO [some ⟨2,(List.map Z3 p0),0,0x008b⟩],1,8⟩) ?_ ?_
    · exact V0.canonV 0 [40] _ _ hβ (J9 (by decide)) (by decide) (Q38 (v_of (d0:=(.sl 2 40 (p0).length)) (by simp [hx3_r]) (v_sl rfl)) (Q4z _)) (.cons (lv (L:=⟨2,(List.map Z3 p0),0,0x008b⟩) (by simp [hx3_r]) rfl rfl (by simp [hx3_r]) (Q68 (by simp [hx3_r]) (Q7 Q7p _))) .nil)
    · dsimp only [resD]
      exact ⟨[some ⟨2,(List.map Z3 p0),0,0x008b⟩],[],rfl,by simp,by simp,.inl rfl,by simp [Q4m]⟩
  · replace h:some ([])=some res:=by simp only [hnil] at h;simpa [app] using h
    refine hK _ ?_
    refine TrD.cond (b:=true) (by simp) (fun hb=>?_) (fun hb=>by cases hb)
    refine TrD.seq ?_
    refine TrD.regK Q2m (fun K hK=>?_)
    simp
    refine hK _ ?_
    obtain rfl:=Option.some.inj h
    refine TrD.ret ?_
    refine Z2e (σ':=⟨(updD (fun _=>.any) 2 (.sl 2 0 0)),hOfO [some ⟨2,(List.map Z3 []),0,0x008b⟩],1,8⟩) ?_ ?_
    · refine (V0.ownNil (s:=2) (by simp) 2 0x008b).trans ?_
      exact V0.canonV 0 [32] _ _ hβ (J9 (by decide)) (by decide) (Q38 (v_of (d0:=(.sl 2 32 0)) (by simp) (v_sl rfl)) (Q4z _)) (.cons (lv (L:=⟨2,(List.map Z3 []),0,0x008b⟩) (by simp) rfl rfl (by simp) (Q68 (by simp) (Q7 Q7p _))) .nil)
    · dsimp only [resD]
      exact ⟨[some ⟨2,(List.map Z3 []),0,0x008b⟩],[],rfl,by simp,by simp,.inl rfl,by simp [Q4m]⟩
instance X1r:∀ (p0:(List Q2)),Ct (Q09 p0) fun res=>J0 Tryz.prog 0o00166 [] [(.slice 2 (List.map Z3 p0))] (fun H d=>H=[some ⟨2,List.map Z3 res,0,0x008b⟩]∧d=.sl 2 0 res.length):=fun p0=>⟨Z0m p0⟩
instance X5r:∀ (p1:Int),Ct (Q2o p1) fun res=>J0 Tryz.prog 0o00304 [] [.nil,(eI p1)] (fun H d=>H=[some ⟨3,List.map Q1e res,0,0x006b⟩]∧d=.sl 3 0 res.length):=
 au Tryz.func196 Q2o.eq_1 (.o (.i .z (.j 3 0 [0] [9000] (fun (s6:Unit)=>[(0,.sl 3 9000 0)]) (fun _=>[(9000,some ⟨3,(List.map Q1e []),0,0x006b⟩)]) (.i (.o (.o (.pS 144 0 Q1e ([]:List Z5) .z))) (.pN 0 3 0x006b .z)) (fun _=>.z))))
instance Z9e:∀ (p0:(List Q9)) (p1:(Q9→Option Bool)) {p1_f:FuncId} {p1_c:List D} [p1_i:CF1 (fun a0=>(.agg (J5 a0))) (fun r=>(eB r)) p1 p1_f p1_c],Ct (Q0e p0 p1) fun res=>Z2 Tryz.prog 0o00213 [(.slice 9 (List.map J5 p0)),.clos p1_f p1_c] (fun d=>d=(eI res)):=
 au Tryz.func139 Q0e.eq_1 (.o (.o (.o (.o (.o (.ls 0 (.f [] [] [0,1,7,8] [] (fun (k54:Nat) (s50:Unit)=>[(8,eI (k54:Int))]) (fun k54 s50=>[]) (fun k54 s50=>.z) (fun s58=>.z))))))))
instance W4v:∀ (p0:Q2) (q0:Int),Ct (Q5c p0 q0) fun res=>Z2 Tryz.prog 0o00312 [(.agg (Z3 p0)),.cptr [(eI q0)]] (fun d=>d=(eB res)):=
 au Tryz.func202 Q5c.eq_1 .z
instance V1h:∀ (p0:Q1) (p1:(List Int)),Ct (Q57 p0 p1) fun res=>Z2 Tryz.prog 0o00222 [(.agg (X1 p0)),(.slice 1 (List.map rI p1))] (fun d=>d=(.agg (X1 res))):=
 au Tryz.func146 Q57.eq_1 (.o (.o (.ls 1 (.f [2,4] [0,8] [1,2,4,5] [0,8] (fun (k80:Nat) (s76:Q1)=>[(5,eI (k80:Int))]) (fun k80 s76=>[(0,some ⟨3,[(X1 s76)],0,0x001d⟩)]) (fun k80 s76=>.o (.i (.g [1,2,4,5] [0,1] [] [] (.o (.d [0,1,2,3,4,5,6,7,8] [0] [2] .z))) .z)) (fun s84=>.z)))))
instance V1b:Ct (Q47) fun res=>Z2 Tryz.prog 0o00272 [] (fun d=>d=(.agg (Z0 res))):=
 au Tryz.func186 Q47.eq_1 .z
end Go.Proofs.YtjgapphpbkapmaaGreat
