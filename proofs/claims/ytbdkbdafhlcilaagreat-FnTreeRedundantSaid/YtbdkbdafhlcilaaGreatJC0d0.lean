import Derived.Test.YtbdkbdafhlcilaaGreatJMir
import Derived.Test.YtbdkbdafhlcilaaGreatJAuto
set_option linter.unusedSimpArgs false
set_option linter.unusedVariables false
namespace Go.Proofs.YtbdkbdafhlcilaaGreat
open Go Go.RowKit
set_option maxRecDepth 100000
set_option maxHeartbeats 20000000
instance W1n:∀ (p0:(List Int)) (p1:Int),Ct (Q43 p0 p1) fun res=>Z1 Tryz.prog 0o00257 [(.slice 1 (List.map rI p0)),(eI p1)] (fun d=>d=(eI res)):=
 au Tryz.func175 Q43.eq_1 (.o (.o (.ls 0 (.f [] [] [0,1,7,8] [] (fun (k44:Nat) (s40:Unit)=>[(8,eI (k44:Int))]) (fun k44 s40=>[]) (fun k44 s40=>.z) (fun s48=>.z)))))
instance V2r:∀ (p0:Int) (p1:Int) (p2:Int),Ct (Y6 p0 p1 p2) fun res=>Z1 Tryz.prog 0o00072 [(eI p0),(eI p1),(eI p2)] (fun d=>d=(eB res)):=
 au Tryz.func58 Y6.eq_1 .z
instance V0l:∀ (p0:(List Q3)) (p1:Q2),Ct (Q1w p0 p1) fun res=>Z1 Tryz.prog 0o00252 [(.slice 2 (List.map V0 p0)),(.agg (X9 p1))] (fun d=>d=(.slice 1 (List.map rI res))):=
 au Tryz.func170 Q1w.eq_1 (.o (.o (.j 2 0 [5] [9000] (fun (s116:(List Int))=>[(5,.sl 1 9000 (s116).length)]) (fun s116=>[(9000,some ⟨1,(List.map rI s116),0,0x0003⟩)]) (.i (.o (.pN 5 1 0x0003 (.ls 16 (.f [5] [112] [3,5,16,17,18] [0,112] (fun (k198:Nat) (s194:(List Int))=>[(5,.sl 1 112 (s194).length),(18,eI (k198:Int))]) (fun k198 s194=>[(112,some ⟨1,(List.map rI s194),0,0x0003⟩)]) (fun k198 s194=>.o (.j 5 0 [3,5,16,17,18] [0,1] (fun (s217:(List Int))=>[(5,.sl 1 1 (s217).length)]) (fun s217=>[(1,some ⟨1,(List.map rI s217),0,0x0003⟩)]) .z (fun _=>.z))) (fun s202=>.z))))) (.pN 5 1 0x0003 .z)) (fun _=>.z))))
instance W42:∀ (n:Nat) (p0:Q0),Ct (Q17 n p0) fun res=>Z1 Tryz.prog 0o00173 [(.agg (Q1 p0))] (fun d=>d=(eI res)):=
 ar (au Tryz.func123 Q17.eq_2 (.o (.o (.o (.j 2 0 [1,3] [0] (fun (s2:Int)=>[(3,eI s2)]) (fun _=>[]) .z (fun s2=>.ls 10 (.f [3] [] [1,3,10,11,12] [0] (fun (k86:Nat) (s82:Int)=>[(3,eI s82),(12,eI (k86:Int))]) (fun k86 s82=>[]) (fun k86 s82=>.o (.j 6 0 [1,3,10,11,12] [0] (fun (s94:Int)=>[(3,eI s94)]) (fun _=>[]) .z (fun _=>.z))) (fun s90=>.z))))))))
instance W1m:∀ (n:Nat) (p0:Q0),Ct (J0 n p0) fun res=>Z1 Tryz.prog 0o00115 [(.agg (Q1 p0))] (fun d=>d=(.agg (Q1 res))):=
 ar (au Tryz.func77 J0.eq_2 (.o (.o (.b fun (p0:Q0)=>.j 1 0 [1,2] [0,8] (fun (s6:Unit)=>[]) (fun _=>[]) .z (fun s6=>.pC 10 5 6 0x0064 (.lc 0 5 6 Q1 p0.kids (.f [2,3] [1,10,50] [1,2,3,4] [0,1,10,50] (fun (k69:Nat) (s65:(List Q0))=>[(4,eI (k69:Int))]) (fun k69 s65=>[(1000000010,some ⟨6,[[(eI p0.op),(eI p0.ctor),(eI p0.n),(eI p0.m),(eI p0.var),(.sl 6 50 (s65).length)]],0,0x0064⟩),(50,some ⟨6,(List.map Q1 s65),0,0x0064⟩)]) (fun k69 s65=>.o (.g [1,2,3,4] [0,1,2,3] [] [(1000000002,some ⟨6,[[(eI p0.op),(eI p0.ctor),(eI p0.n),(eI p0.m),(eI p0.var),(.sl 6 3 (s65).length)]],0,0x0064⟩)] (.o (.o (.d [0,1,2,3,4,5,6,7,8,9,10,11] [0,2] [40] .z))))) (fun s73=>.z))))))))
instance V2i:∀ (p0:Q2),Ct (Z14 p0) fun res=>Z1 Tryz.prog 0o00266 [(.agg (X9 p0))] (fun d=>d=(eI res)):=
 au Tryz.func182 Z14.eq_1 .z
instance V2c:∀ (p0:(List Z0)) (p1:Int),Ct (Q3z p0 p1) fun res=>Z1 Tryz.prog 0o00362 [(.slice 3 (List.map Y4 p0)),(eI p1)] (fun d=>d=(eI res)):=
 au Tryz.func242 Q3z.eq_1 (.o (.o (.ls 0 (.f [] [] [0,1,5] [] (fun (k44:Nat) (s40:Unit)=>[(5,eI (k44:Int))]) (fun k44 s40=>[]) (fun k44 s40=>.z) (fun s48=>.z)))))
instance V4p:∀ (p0:Int) (p1:Q2),Ct (Q9x p0 p1) fun res=>Z1 Tryz.prog 0o00361 [(eI p0),(.agg (X9 p1))] (fun d=>d=(eB res)):=
 au Tryz.func241 Q9x.eq_1 .z
instance X1c:∀ (p0:(List Q0)) (p1:(List Q0)) (p2:(Q0→Q0→Option Bool)) {p2_f:FuncId} {p2_c:List D} [p2_i:CF2 (fun a0=>(.agg (Q1 a0))) (fun a1=>(.agg (Q1 a1))) (fun r=>(eB r)) p2 p2_f p2_c],Ct (Q1a p0 p1 p2) fun res=>Z1 Tryz.prog 0o00261 [(.slice 6 (List.map Q1 p0)),(.slice 6 (List.map Q1 p1)),.clos p2_f p2_c] (fun d=>d=(eB res)):=
 au Tryz.func177 Q1a.eq_1 (.o (.o (.o (.o (.o (.o (.i .z (.ls 0 (.f [] [] [1,2,15,16,17] [] (fun (k66:Nat) (s62:Unit)=>[(17,eI (k66:Int))]) (fun k66 s62=>[]) (fun k66 s62=>.z) (fun s70=>.z))))))))))
instance W3v:∀ (p0:Z4) (p1:Int),Ct (Z7 p0 p1) fun res=>Q05 Tryz.prog 0o00056 [⟨2,[(J2 p0)],0,0x009a⟩] [.ptr 2 0 0 0,(eI p1)] (fun H d=>H=[some ⟨2,[(J2 res.2)],0,0x009a⟩]∧d=(eI res.1)):=
 au Tryz.func46 Z7.eq_1 (.o (.o (.i .z (.i .z (.i .z (.g [0,1,5] [0] [] [] (.o (.o (.o (.d [0,1,2,3,4,5,6,7,8,9,10,11,12,13,14,15,16,17,18,19,20,21,22,23,24,25,26,27,28,29,30,31,32,33,34,35,36,37,38,39,40,41,42,43,44,45] [0] [] .z))))))))))
instance V0d:∀ (p0:(List Int)),Ct (Q4d p0) fun res=>Q05 Tryz.prog 0o00054 [] [(.slice 1 (List.map (rK .u8) p0))] (fun H d=>H=[some ⟨2,[(J2 res)],0,0x009a⟩]∧d=.ptr 2 0 0 0):=
 au Tryz.func44 Q4d.eq_1 (.o (.j 1 0 [0] [] (fun (s3:(List Int))=>[(0,.slice 1 (List.map (rK .u8) s3))]) (fun _=>[]) .z (fun _=>.z)))
instance V2p:∀ (n:Nat) (p0:Int),Ct (Q7l n p0) fun res=>Z1 Tryz.prog 0o00472 [(eI p0)] (fun d=>d=(eS res)):=
 ar (au Tryz.func314 Q7l.eq_2 (.o (.o (.o (.i .z (.i .z (.w [0,3] [] [0,3] [] (fun (s18:Int×ByteArray)=>[(0,eI s18.1),(3,eS s18.2)]) (fun s18=>[]) (fun s18=>.z) (fun s26=>.z))))))))
set_option maxRecDepth 100000 in
theorem Z1n (p0:(List Q7))(res:(List Q7))(h:Q0h p0=some res):Q05 Tryz.prog 0o00175 [] [(.slice 2 (List.map Z8 p0))] (fun H d=>H=[some ⟨2,List.map Z8 res,0,0x0073⟩]∧d=.sl 2 0 res.length):=by
  unfold Q0h at h
  refine Q05.of (res:=[.tmp 2]) Q90 Tryz.func125 (by decide) rfl (Nat.le_of_ble_eq_true rfl) rfl rfl (fun β hβ=>?_)
  refine TrD.seq ?_
  refine TrD.regK Q90 (fun K hK=>?_)
  simp
  refine hK _ ?_
  refine TrD.seq ?_
  refine TrD.seq ?_
  refine TrD.regK Q90 (fun K hK=>?_)
  simp
  refine ⟨?_,fun hnil=>?_⟩
  · refine hK _ ?_
    refine TrD.cond (b:=false) (by simp) (fun hb=>by cases hb) (fun hb=>?_)
    refine TrD.skip ?_
    refine TrD.seq ?_
    obtain ⟨x3,hx3,h⟩:=bindE h
    have hx3_r:=(Z00 hx3).2
    try simp only [U5,U3,U4,U7,Nat.zero_add,Nat.add_zero,Nat.reduceAdd,Z4b,Z41] at hx3_r
    obtain hhx3:=X15 hx3
    subst hhx3
    refine TrD.regK Q90 (fun K hK=>?_)
    simp [hx3_r]
    refine hK _ ?_
    obtain rfl:=Option.some.inj h
    refine TrD.ret ?_
    refine Z7y (σ':=⟨(updD (fun _=>.any) 2 (.sl 2 0 (p0).length)),hOfO [some ⟨2,(List.map Z8 p0),0,0x0073⟩],1,8⟩) ?_ ?_
    · exact J8.canonV 0 [40] _ _ hβ (Q76 (by decide)) (by decide) (Z0c (v_of (d0:=(.sl 2 40 (p0).length)) (by simp [hx3_r]) (v_sl rfl)) (Z79 _)) (.cons (lv (L:=⟨2,(List.map Z8 p0),0,0x0073⟩) (by simp [hx3_r]) rfl rfl (by simp [hx3_r]) (Q6v (by simp [hx3_r]) (Q8 Q8e _))) .nil)
    · dsimp only [resD]
      exact ⟨[some ⟨2,(List.map Z8 p0),0,0x0073⟩],[],rfl,by simp,by simp,.inl rfl,by simp [Q9q]⟩
  · replace h:some ([])=some res:=by simp only [hnil] at h;simpa [app] using h
    refine hK _ ?_
    refine TrD.cond (b:=true) (by simp) (fun hb=>?_) (fun hb=>by cases hb)
    refine TrD.seq ?_
    refine TrD.regK Q90 (fun K hK=>?_)
    simp
    refine hK _ ?_
    obtain rfl:=Option.some.inj h
    refine TrD.ret ?_
    refine Z7y (σ':=⟨(updD (fun _=>.any) 2 (.sl 2 0 0)),hOfO [some ⟨2,(List.map Z8 []),0,0x0073⟩],1,8⟩) ?_ ?_
    · refine (J8.ownNil (s:=2) (by simp) 2 0x0073).trans ?_
      exact J8.canonV 0 [32] _ _ hβ (Q76 (by decide)) (by decide) (Z0c (v_of (d0:=(.sl 2 32 0)) (by simp) (v_sl rfl)) (Z79 _)) (.cons (lv (L:=⟨2,(List.map Z8 []),0,0x0073⟩) (by simp) rfl rfl (by simp) (Q6v (by simp) (Q8 Q8e _))) .nil)
    · dsimp only [resD]
      exact ⟨[some ⟨2,(List.map Z8 []),0,0x0073⟩],[],rfl,by simp,by simp,.inl rfl,by simp [Q9q]⟩
instance X44:∀ (p0:(List Q7)),Ct (Q0h p0) fun res=>Q05 Tryz.prog 0o00175 [] [(.slice 2 (List.map Z8 p0))] (fun H d=>H=[some ⟨2,List.map Z8 res,0,0x0073⟩]∧d=.sl 2 0 res.length):=fun p0=>⟨Z1n p0⟩
instance X52:∀ (p0:(List Grow)) (p1:(Grow→Option Bool)) {p1_f:FuncId} {p1_c:List D} [p1_i:CF1 (fun a0=>(.agg (Q4w a0))) (fun r=>(eB r)) p1 p1_f p1_c],Ct (Q2c p0 p1) fun res=>Z1 Tryz.prog 0o00373 [(.slice 3 (List.map Q4w p0)),.clos p1_f p1_c] (fun d=>d=(eI res)):=
 au Tryz.func251 Q2c.eq_1 (.o (.o (.o (.o (.o (.ls 0 (.f [] [] [0,1,7,8] [] (fun (k54:Nat) (s50:Unit)=>[(8,eI (k54:Int))]) (fun k54 s50=>[]) (fun k54 s50=>.z) (fun s58=>.z))))))))
instance X9k:∀ (p0:Y3) (q0:Q4g),Ct (Q3i p0 q0) fun res=>Z1 Tryz.prog 0o00277 [(.agg (Q87 p0)),.cptr (Q94 q0)] (fun d=>d=(eB res)):=
 au Tryz.func191 Q3i.eq_1 .z
end Go.Proofs.YtbdkbdafhlcilaaGreat
