import Derived.Test.YtjgapphpbkapmaaGreatJMir
import Derived.Test.YtjgapphpbkapmaaGreatJAuto
set_option linter.unusedSimpArgs false
set_option linter.unusedVariables false
namespace Go.Proofs.YtjgapphpbkapmaaGreat
open Go Go.RowKit
set_option maxRecDepth 100000
set_option maxHeartbeats 20000000
instance V1e:∀ (p0:Int),Ct (Q98 p0) fun res=>Z2 Tryz.prog 0o00440 [(.val (.int .u8 p0))] (fun d=>d=(eB res)):=
 au Tryz.func288 Q98.eq_1 .z
instance W6r:∀ (n:Nat) (p0:(List Q3)) (p1:Int) (p2:Int),Ct (Q9f n p0 p1 p2) fun res=>Z2 Tryz.prog 0o00403 [(.slice 2 (List.map W2 p0)),(eI p1),(eI p2)] (fun d=>d=(eB res)):=
 au Tryz.func259 Q9f.eq_1 (.o (.o (.o (.o (.w [] [] [0,1,2,7] [] (fun (s3024:Int)=>[(7,eI s3024)]) (fun s3024=>[]) (fun s3024=>.i (.j 4 1 [0,1,2,7] [] (fun (s3346:Unit)=>[]) (fun _=>[]) (.g [0,1,2,7] [] [] [] (.i (.o (.o (.d [0,1,2,3,4,5,6,7,8,9,10,11,12,13,14,15] [] [] .z))) (.d [0,1,2,3,4,5,6,7,8,9,10,11,12,13,14,15] [] [] .z))) (fun s3346=>.b fun (x3485:Q3)=>.le 0 1 3 Q6m x3485.ctors x3485 (.f [0,1,2,7] [] [0,1,2,7,8] [] (fun (k3592:Nat) (s3588:Unit)=>[(8,eI (k3592:Int))]) (fun k3592 s3588=>[]) (fun k3592 s3588=>.o (.j 7 0 [0,1,2,7,8] [] (fun (s3602:Unit)=>[]) (fun _=>[]) .z (fun s3602=>.j 9 0 [0,1,2,7,8] [] (fun (s3621:Unit)=>[]) (fun _=>[]) (.g [0,1,2,7,8] [] [] [] (.o (.i (.o (.d [0,1,2,3,4,5,6,7,8,9,10,11,12,13,14,15,16,17,18,19,20,21,22,23,24,25,26,27,28] [] [] .z)) (.d [0,1,2,3,4,5,6,7,8,9,10,11,12,13,14,15,16,17,18,19,20,21,22,23,24,25,26,27,28] [] [] .z)))) (fun _=>.z)))) (fun s3596=>.z)))) .z) (fun s3032=>.z))))))
instance V1d:∀ (p0:(List Int)) (p1:Int),Ct (Q48 p0 p1) fun res=>Z2 Tryz.prog 0o00260 [(.slice 1 (List.map rI p0)),(eI p1)] (fun d=>d=(eB res)):=
 au Tryz.func176 Q48.eq_1 (.o (.o (.ls 0 (.f [] [] [0,1,5] [] (fun (k44:Nat) (s40:Unit)=>[(5,eI (k44:Int))]) (fun k44 s40=>[]) (fun k44 s40=>.z) (fun s48=>.z)))))
instance W6m:∀ (n:Nat) (p0:Q0) (p1:Int),Ct (Q3r n p0 p1) fun res=>Z2 Tryz.prog 0o00406 [(.agg (Z0 p0)),(eI p1)] (fun d=>d=(eI res)):=
 ar (au Tryz.func262 Q3r.eq_2 (.o (.o (.b fun (p0:Q0)=>.o (.lc 0 5 6 Z0 p0.kids (.f [5] [] [1,2,5,6] [0] (fun (k80:Nat) (s76:Int)=>[(5,eI s76),(6,eI (k80:Int))]) (fun k80 s76=>[]) (fun k80 s76=>.z) (fun s84=>.z)))))))
instance W78:∀ (p0:(List Q3)) (p1:Q4),Ct (Q11 p0 p1) fun res=>Z2 Tryz.prog 0o00231 [(.slice 2 (List.map W2 p0)),(.agg (W0 p1))] (fun d=>d=(.slice 1 (List.map rI res))):=
 au Tryz.func153 Q11.eq_1 (.o (.o (.j 2 0 [5] [9000] (fun (s116:(List Int))=>[(5,.sl 1 9000 (s116).length)]) (fun s116=>[(9000,some ⟨1,(List.map rI s116),0,0x0003⟩)]) (.i (.o (.pN 5 1 0x0003 (.ls 16 (.f [5] [112] [3,5,16,17,18] [0,112] (fun (k198:Nat) (s194:(List Int))=>[(5,.sl 1 112 (s194).length),(18,eI (k198:Int))]) (fun k198 s194=>[(112,some ⟨1,(List.map rI s194),0,0x0003⟩)]) (fun k198 s194=>.o (.j 5 0 [3,5,16,17,18] [0,1] (fun (s217:(List Int))=>[(5,.sl 1 1 (s217).length)]) (fun s217=>[(1,some ⟨1,(List.map rI s217),0,0x0003⟩)]) .z (fun _=>.z))) (fun s202=>.z))))) (.pN 5 1 0x0003 .z)) (fun _=>.z))))
instance X2r:∀ (p0:(List Z1)) (p1:Z1),Ct (Q32 p0 p1) fun res=>Z2 Tryz.prog 0o00414 [(.slice 3 (List.map Y2 p0)),(.agg (Y2 p1))] (fun d=>d=(eI res)):=
 au Tryz.func268 Q32.eq_1 (.o (.o (.ls 0 (.f [] [] [0,3,7,8] [0] (fun (k44:Nat) (s40:Unit)=>[(8,eI (k44:Int))]) (fun k44 s40=>[]) (fun k44 s40=>.o (.g [0,3,5,7,8] [0] [] [] (.d [0,1,2,3,4,5] [0] [] .z))) (fun s48=>.z)))))
set_option maxRecDepth 100000 in
theorem Z4i (p0:(List Grow)) (res:(List Grow)) (h:Q2e p0=some res):J0 Tryz.prog 0o00302 [] [(.slice 3 (List.map Q4b p0))] (fun H d=>H=[some ⟨3,List.map Q4b res,0,0x0062⟩]∧d=.sl 3 0 res.length):=by
  unfold Q2e at h
  refine J0.of (res:=[.tmp 2]) Q2m Tryz.func194 (by decide) rfl (Nat.le_of_ble_eq_true rfl) rfl rfl (fun β hβ=>?_)
  refine TrD.seq ?_
  refine TrD.regK Q2m (fun K hK=>?_)
  simp
  refine hK _ ?_
  refine TrD.seq ?_
  refine TrD.seq ?_
  refine TrD.regK Q2m (fun K hK=>?_)
  simp
  refine ⟨?_,fun hnil=>?_⟩
  · refine hK _ ?_
    refine TrD.cond (b:=false) (by simp) (fun hb=>by cases hb) (fun hb=>?_)
    refine TrD.skip ?_
    refine TrD.seq ?_
    obtain ⟨x3,hx3,h⟩:=bindE h
    have hx3_r:=(Q86 hx3).2
    try simp only [U5,U3,U4,U7,Nat.zero_add,Nat.add_zero,Nat.reduceAdd,Z2o,Z2g] at hx3_r
    obtain hhx3:=Z5i hx3
    subst hhx3
    refine TrD.regK Q2m (fun K hK=>?_)
    simp [hx3_r]
    refine hK _ ?_
    obtain rfl:=Option.some.inj h
    refine TrD.ret ?_
    refine Z2e (σ':=⟨(updD (fun _=>.any) 2 (.sl 3 0 (p0).length)),hOfO [some ⟨3,(List.map Q4b p0),0,0x0062⟩],1,8⟩) ?_ ?_
    · exact V0.canonV 0 [40] _ _ hβ (J9 (by decide)) (by decide) (Q38 (v_of (d0:=(.sl 3 40 (p0).length)) (by simp [hx3_r]) (v_sl rfl)) (Q4z _)) (.cons (lv (L:=⟨3,(List.map Q4b p0),0,0x0062⟩) (by simp [hx3_r]) rfl rfl (by simp [hx3_r]) (Q68 (by simp [hx3_r]) (Q7 Z82 _))) .nil)
    · dsimp only [resD]
      exact ⟨[some ⟨3,(List.map Q4b p0),0,0x0062⟩],[],rfl,by simp,by simp,.inl rfl,by simp [Q4m]⟩
  · replace h:some ([])=some res:=by simp only [hnil] at h;simpa [app] using h
    refine hK _ ?_
    refine TrD.cond (b:=true) (by simp) (fun hb=>?_) (fun hb=>by cases hb)
    refine TrD.seq ?_
    refine TrD.regK Q2m (fun K hK=>?_)
    simp
    refine hK _ ?_
    obtain rfl:=Option.some.inj h
    refine TrD.ret ?_
    refine Z2e (σ':=⟨(updD (fun _=>.any) 2 (.sl 3 0 0)),hOfO [some ⟨3,(List.map Q4b []),0,0x0062⟩],1,8⟩) ?_ ?_
    · refine (V0.ownNil (s:=2) (by simp) 3 0x0062).trans ?_
      exact V0.canonV 0 [32] _ _ hβ (J9 (by decide)) (by decide) (Q38 (v_of (d0:=(.sl 3 32 0)) (by simp) (v_sl rfl)) (Q4z _)) (.cons (lv (L:=⟨3,(List.map Q4b []),0,0x0062⟩) (by simp) rfl rfl (by simp) (Q68 (by simp) (Q7 Z82 _))) .nil)
    · dsimp only [resD]
      exact ⟨[some ⟨3,(List.map Q4b []),0,0x0062⟩],[],rfl,by simp,by simp,.inl rfl,by simp [Q4m]⟩
instance X8u:∀ (p0:(List Grow)),Ct (Q2e p0) fun res=>J0 Tryz.prog 0o00302 [] [(.slice 3 (List.map Q4b p0))] (fun H d=>H=[some ⟨3,List.map Q4b res,0,0x0062⟩]∧d=.sl 3 0 res.length):=fun p0=>⟨Z4i p0⟩
instance W4x:∀ (p0:Int),Ct (Q45 p0) fun res=>Z2 Tryz.prog 0o00247 [(eI p0)] (fun d=>d=(eB res)):=
 au Tryz.func167 Q45.eq_1 .z
instance W0p:∀ (p0:Int),Ct (Q7b p0) fun res=>Z2 Tryz.prog 0o00336 [(.val (.int .u64 p0))] (fun d=>d=(eI res)):=
 au Tryz.func222 Q7b.eq_1 (.o (.j 1 0 [0,2] [] (fun (s2:Int×Int)=>[(0,.val (.int .u64 s2.1)),(2,eI s2.2)]) (fun _=>[]) .z (fun s2=>.j 4 0 [0,2] [] (fun (s7:Int×Int)=>[(0,.val (.int .u64 s7.1)),(2,eI s7.2)]) (fun _=>[]) .z (fun s7=>.j 7 0 [0,2] [] (fun (s12:Int×Int)=>[(0,.val (.int .u64 s12.1)),(2,eI s12.2)]) (fun _=>[]) .z (fun _=>.z)))))
instance W4q:∀ (n:Nat) (p0:Q1),Ct (Q1i n p0) fun res=>Z2 Tryz.prog 0o00124 [(.agg (X1 p0))] (fun d=>d=(.agg (X1 res))):=
 ar (au Tryz.func84 Q1i.eq_2 (.o (.o (.b fun (p0:Q1)=>.pC 56 2 3 0x001d (.ls 12 (.f [2,3] [8,56,104] [2,3,12,13,14] [8,56,104] (fun (k56:Nat) (s52:(List Q1))=>[(14,eI (k56:Int))]) (fun k56 s52=>[(1000000056,some ⟨3,[[(eI p0.ctor),(eI p0.n),(.sl 3 104 (s52).length)]],0,0x001d⟩),(104,some ⟨3,(List.map X1 s52),0,0x001d⟩)]) (fun k56 s52=>.o (.g [2,3,5,12,13,14] [0,1,2,27] [] [(1000000001,some ⟨3,[[(eI p0.ctor),(eI p0.n),(.sl 3 2 (s52).length)]],0,0x001d⟩)] (.o (.o (.d [0,1,2,3,4,5,6,7] [1,3] [24] .z))))) (fun s60=>.z)))))))
instance X1p:∀ (p0:(List X8)) (p1:(X8→Option Bool)) {p1_f:FuncId} {p1_c:List D} [p1_i:CF1 (fun a0=>(.agg (Q1m a0))) (fun r=>(eB r)) p1 p1_f p1_c],Ct (Q1g p0 p1) fun res=>Z2 Tryz.prog 0o00250 [(.slice 4 (List.map Q1m p0)),.clos p1_f p1_c] (fun d=>d=(eI res)):=
 au Tryz.func168 Q1g.eq_1 (.o (.o (.o (.o (.o (.ls 0 (.f [] [] [0,1,7,8] [] (fun (k54:Nat) (s50:Unit)=>[(8,eI (k54:Int))]) (fun k54 s50=>[]) (fun k54 s50=>.z) (fun s58=>.z))))))))
instance W4l:∀ (p0:Q2i) (p1:(List Q2)),Ct (Q1f p0 p1) fun res=>Z2 Tryz.prog 0o00224 [(.agg (Q77 p0)),(.slice 2 (List.map Z3 p1))] (fun d=>d=.tup [(.slice 1 (List.map rI res.1)),(eB res.2)]):=
 au Tryz.func148 Q1f.eq_1 (.o (.o (.ls 1 (.f [] [] [1,2,6] [0] (fun (k78:Nat) (s74:Unit)=>[(6,eI (k78:Int))]) (fun k78 s74=>[]) (fun k78 s74=>.o (.i (.g [1,2,6] [0] [] [] (.d [0,1,2,3,4,5,6,7] [0] [] .z)) .z)) (fun s82=>.z)))))
instance W4k:∀ (p0:Q2i) (p1:Int),Ct (Q56 p0 p1) fun res=>Z2 Tryz.prog 0o00225 [(.agg (Q77 p0)),(eI p1)] (fun d=>d=(eB res)):=
 au Tryz.func149 Q56.eq_1 .z
instance W8o:∀ (p0:(List Int)) (p1:Int),Ct (Q6n p0 p1) fun res=>Z2 Tryz.prog 0o00344 [(.slice 1 (List.map rI p0)),(eI p1)] (fun d=>d=(.slice 1 (List.map rI res))):=
 au Tryz.func228 Q6n.eq_1 .z
instance W8q:∀ (p0:Q0) (p1:Q9),Ct (Q6o p0 p1) fun res=>Z2 Tryz.prog 0o00431 [(.agg (Z0 p0)),(.agg (J5 p1))] (fun d=>d=(eB res)):=
 au Tryz.func281 Q6o.eq_1 .z
end Go.Proofs.YtjgapphpbkapmaaGreat
