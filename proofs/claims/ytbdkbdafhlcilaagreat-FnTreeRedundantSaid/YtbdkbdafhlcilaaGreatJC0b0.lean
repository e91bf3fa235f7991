import Derived.Test.YtbdkbdafhlcilaaGreatJMir
import Derived.Test.YtbdkbdafhlcilaaGreatJAuto
set_option linter.unusedSimpArgs false
set_option linter.unusedVariables false
namespace Go.Proofs.YtbdkbdafhlcilaaGreat
open Go Go.RowKit
set_option maxRecDepth 100000
set_option maxHeartbeats 20000000
instance V6p:∀ (p0:Q0) (p1:Bool) (p2:Bool) (p3:Bool) (p4:Int),Ct (Q4f p0 p1 p2 p3 p4) fun res=>Z1 Tryz.prog 0o00445 [(.agg (Q1 p0)),(eB p1),(eB p2),(eB p3),(eI p4)] (fun d=>d=(eB res)):=
 au Tryz.func293 Q4f.eq_1 .z
instance X1a:∀ (p0:(List Z0)) (p1:(Z0→Option Bool)) {p1_f:FuncId} {p1_c:List D} [p1_i:CF1 (fun a0=>(.agg (Y4 a0))) (fun r=>(eB r)) p1 p1_f p1_c],Ct (Q3o p0 p1) fun res=>Z1 Tryz.prog 0o00473 [(.slice 3 (List.map Y4 p0)),.clos p1_f p1_c] (fun d=>d=(eI res)):=
 au Tryz.func315 Q3o.eq_1 (.o (.o (.o (.o (.o (.ls 0 (.f [] [] [0,1,7,8] [] (fun (k54:Nat) (s50:Unit)=>[(8,eI (k54:Int))]) (fun k54 s50=>[]) (fun k54 s50=>.z) (fun s58=>.z))))))))
instance X51:∀ (p0:(List Z0)) (p1:Z0),Ct (Q3k p0 p1) fun res=>Z1 Tryz.prog 0o00416 [(.slice 3 (List.map Y4 p0)),(.agg (Y4 p1))] (fun d=>d=(eI res)):=
 au Tryz.func270 Q3k.eq_1 (.o (.o (.ls 0 (.f [] [] [0,3,7,8] [0] (fun (k44:Nat) (s40:Unit)=>[(8,eI (k44:Int))]) (fun k44 s40=>[]) (fun k44 s40=>.o (.g [0,3,5,7,8] [0] [] [] (.d [0,1,2,3,4,5] [0] [] .z))) (fun s48=>.z)))))
instance X1l:∀ (p0:(List Q5)) (p1:(Q5→Option Bool)) {p1_f:FuncId} {p1_c:List D} [p1_i:CF1 (fun a0=>(.agg (W0 a0))) (fun r=>(eB r)) p1 p1_f p1_c],Ct (Q4e p0 p1) fun res=>Z1 Tryz.prog 0o00241 [(.slice 9 (List.map W0 p0)),.clos p1_f p1_c] (fun d=>d=(eI res)):=
 au Tryz.func161 Q4e.eq_1 (.o (.o (.o (.o (.o (.ls 0 (.f [] [] [0,1,7,8] [] (fun (k54:Nat) (s50:Unit)=>[(8,eI (k54:Int))]) (fun k54 s50=>[]) (fun k54 s50=>.z) (fun s58=>.z))))))))
instance W43:Ct (Q0p) fun res=>Z1 Tryz.prog 0o00177 [] (fun d=>d=(.agg (Q1 res))):=
 au Tryz.func127 Q0p.eq_1 .z
instance V2k:∀ (p0:Q8f) (p1:Int),Ct (Z15 p0 p1) fun res=>Z1 Tryz.prog 0o00265 [(.agg (Q7e p0)),(eI p1)] (fun d=>d=(eB res)):=
 au Tryz.func181 Z15.eq_1 .z
instance V2e:∀ (n:Nat) (p0:Q0),Ct (Q33 n p0) fun res=>Z1 Tryz.prog 0o00137 [(.agg (Q1 p0))] (fun d=>d=(.agg (Q1 res))):=
 ar (au Tryz.func95 Q33.eq_2 (.o (.o (.b fun (p0:Q0)=>.pC 24 5 6 0x0064 (.lc 0 5 6 Q1 p0.kids (.f [2,3] [8,24,64] [1,2,3,4] [0,8,24,64] (fun (k56:Nat) (s52:(List Q0))=>[(4,eI (k56:Int))]) (fun k56 s52=>[(1000000024,some ⟨6,[[(eI p0.op),(eI p0.ctor),(eI p0.n),(eI p0.m),(eI p0.var),(.sl 6 64 (s52).length)]],0,0x0064⟩),(64,some ⟨6,(List.map Q1 s52),0,0x0064⟩)]) (fun k56 s52=>.o (.g [1,2,3,4] [0,1,2,3] [] [(1000000002,some ⟨6,[[(eI p0.op),(eI p0.ctor),(eI p0.n),(eI p0.m),(eI p0.var),(.sl 6 3 (s52).length)]],0,0x0064⟩)] (.o (.o (.d [0,1,2,3,4,5,6,7,8,9,10,11] [0,2] [24] .z))))) (fun s60=>.z)))))))
instance V4n:∀ (p0:(List Int)) (p1:Int),Ct (Q4t p0 p1) fun res=>Z1 Tryz.prog 0o00136 [(.slice 1 (List.map rI p0)),(eI p1)] (fun d=>d=(eB res)):=
 au Tryz.func94 Q4t.eq_1 (.o (.o (.ls 0 (.f [] [] [0,1,5] [] (fun (k44:Nat) (s40:Unit)=>[(5,eI (k44:Int))]) (fun k44 s40=>[]) (fun k44 s40=>.z) (fun s48=>.z)))))
instance V4o:∀ (p0:Int),Ct (Q9w p0) fun res=>Z1 Tryz.prog 0o00431 [(.val (.int .u8 p0))] (fun d=>d=(eB res)):=
 au Tryz.func281 Q9w.eq_1 .z
instance X1n:∀ (p0:(List Q5)) (p1:(List Q5)) (p2:(Q5→Q5→Option Bool)) {p2_f:FuncId} {p2_c:List D} [p2_i:CF2 (fun a0=>(.agg (W0 a0))) (fun a1=>(.agg (W0 a1))) (fun r=>(eB r)) p2 p2_f p2_c],Ct (Q0n p0 p1 p2) fun res=>Z1 Tryz.prog 0o00140 [(.slice 9 (List.map W0 p0)),(.slice 9 (List.map W0 p1)),.clos p2_f p2_c] (fun d=>d=(eB res)):=
 au Tryz.func96 Q0n.eq_1 (.o (.o (.o (.o (.o (.o (.i .z (.ls 0 (.f [] [] [1,2,15,16,17] [] (fun (k66:Nat) (s62:Unit)=>[(17,eI (k66:Int))]) (fun k66 s62=>[]) (fun k66 s62=>.z) (fun s70=>.z))))))))))
set_option maxRecDepth 100000 in
theorem Z6d (p0:(List Int))(res:(List Int))(h:Q0b p0=some res):Q05 Tryz.prog 0o00176 [] [(.slice 1 (List.map rI p0))] (fun H d=>H=[some ⟨1,List.map rI res,0,0x0003⟩]∧d=.sl 1 0 res.length):=by
  unfold Q0b at h
  refine Q05.of (res:=[.tmp 2]) Q90 Tryz.func126 (by decide) rfl (Nat.le_of_ble_eq_true rfl) rfl rfl (fun β hβ=>?_)
  refine TrD.seq ?_
  refine TrD.regK Q90 (fun K hK=>?_)
  simp
  refine hK _ ?_
  refine TrD.seq ?_
  refine TrD.seq ?_
  refine TrD.regK Q90 (fun K hK=>?_)
  simp
  refine ⟨?_,fun hnil=>?_⟩
  · refine hK _ ?_
    refine TrD.cond (b:=false) (by simp) (fun hb=>by cases hb) (fun hb=>?_)
    refine TrD.skip ?_
    refine TrD.seq ?_
    obtain ⟨x3,hx3,h⟩:=bindE h
    have hx3_r:=(Z00 hx3).2
    try simp only [U5,U3,U4,U7,Nat.zero_add,Nat.add_zero,Nat.reduceAdd,Z4b,Z41] at hx3_r
    obtain hhx3:=X15 hx3
    subst hhx3
    refine TrD.regK Q90 (fun K hK=>?_)
    simp [hx3_r]
    refine hK _ ?_
    obtain rfl:=Option.some.inj h
    refine TrD.ret ?_
    refine Z7y (σ':=⟨(updD (fun _=>.any) 2 (.sl 1 0 (p0).length)),hOfO [some ⟨1,(List.map rI p0),0,0x0003⟩],1,8⟩) ?_ ?_
    · exact J8.canonV 0 [40] _ _ hβ (Q76 (by decide)) (by decide) (Z0c (v_of (d0:=(.sl 1 40 (p0).length)) (by simp [hx3_r]) (v_sl rfl)) (Z79 _)) (.cons (lv (L:=⟨1,(List.map rI p0),0,0x0003⟩) (by simp [hx3_r]) rfl rfl (by simp [hx3_r]) (Q6v (by simp [hx3_r]) (Q8 (fun _=>by simp) _))) .nil)
    · dsimp only [resD]
      exact ⟨[some ⟨1,(List.map rI p0),0,0x0003⟩],[],rfl,by simp,by simp,.inl rfl,by simp [Q9q]⟩
  · replace h:some ([])=some res:=by simp only [hnil] at h;simpa [app] using h
    refine hK _ ?_
    refine TrD.cond (b:=true) (by simp) (fun hb=>?_) (fun hb=>by cases hb)
    refine TrD.seq ?_
    refine TrD.regK Q90 (fun K hK=>?_)
    simp
    refine hK _ ?_
    obtain rfl:=Option.some.inj h
    refine TrD.ret ?_
    refine Z7y (σ':=⟨(updD (fun _=>.any) 2 (.sl 1 0 0)),hOfO [some ⟨1,(List.map rI []),0,0x0003⟩],1,8⟩) ?_ ?_
    · refine (J8.ownNil (s:=2) (by simp) 1 0x0003).trans ?_
      exact J8.canonV 0 [32] _ _ hβ (Q76 (by decide)) (by decide) (Z0c (v_of (d0:=(.sl 1 32 0)) (by simp) (v_sl rfl)) (Z79 _)) (.cons (lv (L:=⟨1,(List.map rI []),0,0x0003⟩) (by simp) rfl rfl (by simp) (Q6v (by simp) (Q8 (fun _=>by simp) _))) .nil)
    · dsimp only [resD]
      exact ⟨[some ⟨1,(List.map rI []),0,0x0003⟩],[],rfl,by simp,by simp,.inl rfl,by simp [Q9q]⟩
instance W1p:∀ (p0:(List Int)),Ct (Q0b p0) fun res=>Q05 Tryz.prog 0o00176 [] [(.slice 1 (List.map rI p0))] (fun H d=>H=[some ⟨1,List.map rI res,0,0x0003⟩]∧d=.sl 1 0 res.length):=fun p0=>⟨Z6d p0⟩
instance Z3a:∀ (n:Nat) (p0:(List Q7)) (p1:Int) (p2:Int) (p3:(Q7→Q7→Option Int)) {p3_f:FuncId} {p3_c:List D} [p3_i:CF2 (fun a0=>(.agg (Z8 a0))) (fun a1=>(.agg (Z8 a1))) (fun r=>(eI r)) p3 p3_f p3_c],Ct (V9 n p0 p1 p2 p3) fun res=>Q05 Tryz.prog 0o00435 [⟨2,List.map Z8 p0,0,0x0073⟩] [.sl 2 0 p0.length,(eI p1),(eI p2),.clos p3_f p3_c] (fun H d=>H=[some ⟨2,List.map Z8 res,0,0x0073⟩]∧d=.tup []):=
 au Tryz.func285 V9.eq_1 (.o (.o (.o (.o (.o (.o (.o (.o (.w [] [0] [0,1,2,3,8] [0] (fun (s464:(List Q7)×Int)=>[(0,.sl 2 0 (s464.1).length),(8,eI s464.2)]) (fun s464=>[(0,some ⟨2,(List.map Z8 s464.1),0,0x0073⟩)]) (fun s464=>.i (.w [0,1,2,3,8] [0] [0,1,2,3,8,9] [0] (fun (s660:(List Q7)×Int)=>[(0,.sl 2 0 (s660.1).length),(9,eI s660.2)]) (fun s660=>[(0,some ⟨2,(List.map Z8 s660.1),0,0x0073⟩)]) (fun s660=>.g [0,1,2,3,8,9] [0] [] [] (.i (.o (.o (.o (.d [0,1,2,3,4,5,6,7,8,9,10,11,12,13,14,15,16] [0] [] (.i (.g [0,1,2,3,8,9] [0] [] [] (.o (.o (.o (.d [0,1,2,3,4,5,6,7,8,9,10,11,12,13,14,15,16,17] [0] [51,52] .z))))) .z))))) (.d [0,1,2,3,4,5,6,7,8,9,10,11,12,13,14,15,16] [] [] .z))) (fun s668=>.z)) .z) (fun s472=>.z))))))))))
instance W3y:∀ (p0:Int),Ct (Q7x p0) fun res=>Z1 Tryz.prog 0o00430 [(.val (.int .u64 p0))] (fun d=>d=(eI res)):=
 au Tryz.func280 Q7x.eq_1 (.o (.j 1 0 [0,2] [] (fun (s2:Int×Int)=>[(0,.val (.int .u64 s2.1)),(2,eI s2.2)]) (fun _=>[]) .z (fun s2=>.j 4 0 [0,2] [] (fun (s7:Int×Int)=>[(0,.val (.int .u64 s7.1)),(2,eI s7.2)]) (fun _=>[]) .z (fun s7=>.j 7 0 [0,2] [] (fun (s12:Int×Int)=>[(0,.val (.int .u64 s12.1)),(2,eI s12.2)]) (fun _=>[]) .z (fun _=>.z)))))
instance X41:∀ (p0:(List Y3)) (p1:(Y3→Option Bool)) {p1_f:FuncId} {p1_c:List D} [p1_i:CF1 (fun a0=>(.agg (Q87 a0))) (fun r=>(eB r)) p1 p1_f p1_c],Ct (Q20 p0 p1) fun res=>Z1 Tryz.prog 0o00276 [(.slice 4 (List.map Q87 p0)),.clos p1_f p1_c] (fun d=>d=(eI res)):=
 au Tryz.func190 Q20.eq_1 (.o (.o (.o (.o (.o (.ls 0 (.f [] [] [0,1,7,8] [] (fun (k54:Nat) (s50:Unit)=>[(8,eI (k54:Int))]) (fun k54 s50=>[]) (fun k54 s50=>.z) (fun s58=>.z))))))))
end Go.Proofs.YtbdkbdafhlcilaaGreat
