import Derived.Test.YtjgapphpbkapmaaGreatNJMir
import Derived.Test.YtjgapphpbkapmaaGreatNJAuto
set_option linter.unusedSimpArgs false
set_option linter.unusedVariables false
namespace Go.Proofs.YtjgapphpbkapmaaGreat
open Go Go.RowKit
set_option maxRecDepth 100000
set_option maxHeartbeats 20000000
instance W3w:∀ (p0:Int) (p1:Int) (p2:Int),Ct (Y0 p0 p1 p2) fun res=>Z1 Tryz.prog 0o00067 [(eI p0),(eI p1),(eI p2)] (fun d=>d=(eB res)):=
 au Tryz.func55 Y0.eq_1 .z
instance W1s:∀ (p0:(List Q3)) (p1:Q5),Ct (Q14 p0 p1) fun res=>Z1 Tryz.prog 0o00231 [(.slice 2 (List.map W2 p0)),(.agg (W1 p1))] (fun d=>d=(.slice 1 (List.map rI res))):=
 au Tryz.func153 Q14.eq_1 (.o (.o (.j 2 0 [5] [9000] (fun (s116:(List Int))=>[(5,.sl 1 9000 (s116).length)]) (fun s116=>[(9000,some ⟨1,(List.map rI s116),0,0x0003⟩)]) (.i (.o (.pN 5 1 0x0003 (.ls 16 (.f [5] [112] [3,5,16,17,18] [0,112] (fun (k198:Nat) (s194:(List Int))=>[(5,.sl 1 112 (s194).length),(18,eI (k198:Int))]) (fun k198 s194=>[(112,some ⟨1,(List.map rI s194),0,0x0003⟩)]) (fun k198 s194=>.o (.j 5 0 [3,5,16,17,18] [0,1] (fun (s217:(List Int))=>[(5,.sl 1 1 (s217).length)]) (fun s217=>[(1,some ⟨1,(List.map rI s217),0,0x0003⟩)]) .z (fun _=>.z))) (fun s202=>.z))))) (.pN 5 1 0x0003 .z)) (fun _=>.z))))
instance Z5p:∀ (p0:(List Q6)) (p1:(Q6→Option Bool)) {p1_f:FuncId} {p1_c:List D} [p1_i:CF1 (fun a0=>(.agg (V1 a0))) (fun r=>(eB r)) p1 p1_f p1_c],Ct (Q24 p0 p1) fun res=>Z1 Tryz.prog 0o00456 [(.slice 3 (List.map V1 p0)),.clos p1_f p1_c] (fun d=>d=(eI res)):=
 au Tryz.func302 Q24.eq_1 (.o (.o (.o (.o (.o (.ls 0 (.f [] [] [0,1,7,8] [] (fun (k54:Nat) (s50:Unit)=>[(8,eI (k54:Int))]) (fun k54 s50=>[]) (fun k54 s50=>.z) (fun s58=>.z))))))))
instance X5p:∀ (n:Nat) (p0:Q0),Ct (Q0l n p0) fun res=>Z1 Tryz.prog 0o00164 [(.agg (Q7 p0))] (fun d=>d=(eI res)):=
 ar (au Tryz.func116 Q0l.eq_2 (.o (.o (.o (.j 2 0 [1,3] [0] (fun (s2:Int)=>[(3,eI s2)]) (fun _=>[]) .z (fun s2=>.ls 10 (.f [3] [] [1,3,10,11,12] [0] (fun (k86:Nat) (s82:Int)=>[(3,eI s82),(12,eI (k86:Int))]) (fun k86 s82=>[]) (fun k86 s82=>.o (.j 6 0 [1,3,10,11,12] [0] (fun (s94:Int)=>[(3,eI s94)]) (fun _=>[]) .z (fun _=>.z))) (fun s90=>.z))))))))
set_option maxRecDepth 100000 in
theorem Z1z (p0:(List Int))(res:(List Int))(h:V7 p0=some res):J2 Tryz.prog 0o00167 [] [(.slice 1 (List.map rI p0))] (fun H d=>H=[some ⟨1,List.map rI res,0,0x0003⟩]∧d=.sl 1 0 res.length):=by
  unfold V7 at h
  refine J2.of (res:=[.tmp 2]) Q6q Tryz.func119 (by decide) rfl (Nat.le_of_ble_eq_true rfl) rfl rfl (fun β hβ=>?_)
  refine TrD.seq ?_
  refine TrD.regK Q6q (fun K hK=>?_)
  simp
  refine hK _ ?_
  refine TrD.seq ?_
  refine TrD.seq ?_
  refine TrD.regK Q6q (fun K hK=>?_)
  simp
  refine ⟨?_,fun hnil=>?_⟩
  · refine hK _ ?_
    refine TrD.cond (b:=false) (by simp) (fun hb=>by cases hb) (fun hb=>?_)
    refine TrD.skip ?_
    refine TrD.seq ?_
    obtain ⟨x3,hx3,h⟩:=bindE h
    have hx3_r:=(Q7i hx3).2
    try simp only [U5,U3,U4,U7,Nat.zero_add,Nat.add_zero,Nat.reduceAdd,Z0o,Z0i] at hx3_r
    obtain hhx3:=Z5l hx3
    subst hhx3
    refine TrD.regK Q6q (fun K hK=>?_)
    simp [hx3_r]
    refine hK _ ?_
    obtain rfl:=Option.some.inj h
    refine TrD.ret ?_
    refine Z32 (σ':=⟨(updD (fun _=>.any) 2 (.sl 1 0 (p0).length)),hOfO [some ⟨1,(List.map rI p0),0,0x0003⟩],1,8⟩) ?_ ?_
    · exact W9.canonV 0 [40] _ _ hβ (Q52 (by decide)) (by decide) (Q7r (v_of (d0:=(.sl 1 40 (p0).length)) (by simp [hx3_r]) (v_sl rfl)) (Z2r _)) (.cons (lv (L:=⟨1,(List.map rI p0),0,0x0003⟩) (by simp [hx3_r]) rfl rfl (by simp [hx3_r]) (Q4t (by simp [hx3_r]) (Q2 (fun _=>by simp) _))) .nil)
    · dsimp only [resD]
      exact ⟨[some ⟨1,(List.map rI p0),0,0x0003⟩],[],rfl,by simp,by simp,.inl rfl,by simp [Q6t]⟩
  · replace h:some ([])=some res:=by simp only [hnil] at h;simpa [app] using h
    refine hK _ ?_
    refine TrD.cond (b:=true) (by simp) (fun hb=>?_) (fun hb=>by cases hb)
    refine TrD.seq ?_
    refine TrD.regK Q6q (fun K hK=>?_)
    simp
    refine hK _ ?_
    obtain rfl:=Option.some.inj h
    refine TrD.ret ?_
    refine Z32 (σ':=⟨(updD (fun _=>.any) 2 (.sl 1 0 0)),hOfO [some ⟨1,(List.map rI []),0,0x0003⟩],1,8⟩) ?_ ?_
    · refine (W9.ownNil (s:=2) (by simp) 1 0x0003).trans ?_
      exact W9.canonV 0 [32] _ _ hβ (Q52 (by decide)) (by decide) (Q7r (v_of (d0:=(.sl 1 32 0)) (by simp) (v_sl rfl)) (Z2r _)) (.cons (lv (L:=⟨1,(List.map rI []),0,0x0003⟩) (by simp) rfl rfl (by simp) (Q4t (by simp) (Q2 (fun _=>by simp) _))) .nil)
    · dsimp only [resD]
      exact ⟨[some ⟨1,(List.map rI []),0,0x0003⟩],[],rfl,by simp,by simp,.inl rfl,by simp [Q6t]⟩
instance X41:∀ (p0:(List Int)),Ct (V7 p0) fun res=>J2 Tryz.prog 0o00167 [] [(.slice 1 (List.map rI p0))] (fun H d=>H=[some ⟨1,List.map rI res,0,0x0003⟩]∧d=.sl 1 0 res.length):=fun p0=>⟨Z1z p0⟩
instance X75:∀ (p0:(List Int)) (p1:Q5),Ct (Q3k p0 p1) fun res=>Z1 Tryz.prog 0o00277 [.cptr (List.map cI p0),(.agg (W1 p1))] (fun d=>d=(eI res)):=
 au Tryz.func191 Q3k.eq_1 (.o (.o (.i .z (.g [0,3] [0] [] [] (.o (.d [0,1,2,3,4,5,6,7,8,9] [0] [] .z))))))
set_option maxRecDepth 100000 in
theorem Z1y (p0:(List Grow))(res:(List Grow))(h:Q19 p0=some res):J2 Tryz.prog 0o00302 [] [(.slice 3 (List.map Q37 p0))] (fun H d=>H=[some ⟨3,List.map Q37 res,0,0x0062⟩]∧d=.sl 3 0 res.length):=by
  unfold Q19 at h
  refine J2.of (res:=[.tmp 2]) Q6q Tryz.func194 (by decide) rfl (Nat.le_of_ble_eq_true rfl) rfl rfl (fun β hβ=>?_)
  refine TrD.seq ?_
  refine TrD.regK Q6q (fun K hK=>?_)
  simp
  refine hK _ ?_
  refine TrD.seq ?_
  refine TrD.seq ?_
  refine TrD.regK Q6q (fun K hK=>?_)
  simp
  refine ⟨?_,fun hnil=>?_⟩
  · refine hK _ ?_
    refine TrD.cond (b:=false) (by simp) (fun hb=>by cases hb) (fun hb=>?_)
    refine TrD.skip ?_
    refine TrD.seq ?_
    obtain ⟨x3,hx3,h⟩:=bindE h
    have hx3_r:=(Q7i hx3).2
    try simp only [U5,U3,U4,U7,Nat.zero_add,Nat.add_zero,Nat.reduceAdd,Z0o,Z0i] at hx3_r
    obtain hhx3:=Z5l hx3
    subst hhx3
    refine TrD.regK Q6q (fun K hK=>?_)
    simp [hx3_r]
    refine hK _ ?_
    obtain rfl:=Option.some.inj h
    refine TrD.ret ?_
    refine Z32 (σ':=⟨(updD (fun _=>.any) 2 (.sl 3 0 (p0).length)),hOfO [some ⟨3,(List.map Q37 p0),0,0x0062⟩],1,8⟩) ?_ ?_
    · exact W9.canonV 0 [40] _ _ hβ (Q52 (by decide)) (by decide) (Q7r (v_of (d0:=(.sl 3 40 (p0).length)) (by simp [hx3_r]) (v_sl rfl)) (Z2r _)) (.cons (lv (L:=⟨3,(List.map Q37 p0),0,0x0062⟩) (by simp [hx3_r]) rfl rfl (by simp [hx3_r]) (Q4t (by simp [hx3_r]) (Q2 Z4r _))) .nil)
    · dsimp only [resD]
      exact ⟨[some ⟨3,(List.map Q37 p0),0,0x0062⟩],[],rfl,by simp,by simp,.inl rfl,by simp [Q6t]⟩
  · replace h:some ([])=some res:=by simp only [hnil] at h;simpa [app] using h
    refine hK _ ?_
    refine TrD.cond (b:=true) (by simp) (fun hb=>?_) (fun hb=>by cases hb)
    refine TrD.seq ?_
    refine TrD.regK Q6q (fun K hK=>?_)
    simp
    refine hK _ ?_
    obtain rfl:=Option.some.inj h
    refine TrD.ret ?_
    refine Z32 (σ':=⟨(updD (fun _=>.any) 2 (.sl 3 0 0)),hOfO [some ⟨3,(List.map Q37 []),0,0x0062⟩],1,8⟩) ?_ ?_
    · refine (W9.ownNil (s:=2) (by simp) 3 0x0062).trans ?_
      exact W9.canonV 0 [32] _ _ hβ (Q52 (by decide)) (by decide) (Q7r (v_of (d0:=(.sl 3 32 0)) (by simp) (v_sl rfl)) (Z2r _)) (.cons (lv (L:=⟨3,(List.map Q37 []),0,0x0062⟩) (by simp) rfl rfl (by simp) (Q4t (by simp) (Q2 Z4r _))) .nil)
    · dsimp only [resD]
      exact ⟨[some ⟨3,(List.map Q37 []),0,0x0062⟩],[],rfl,by simp,by simp,.inl rfl,by simp [Q6t]⟩
instance X40:∀ (p0:(List Grow)),Ct (Q19 p0) fun res=>J2 Tryz.prog 0o00302 [] [(.slice 3 (List.map Q37 p0))] (fun H d=>H=[some ⟨3,List.map Q37 res,0,0x0062⟩]∧d=.sl 3 0 res.length):=fun p0=>⟨Z1y p0⟩
instance W3s:∀ (n:Nat) (p0:Int),Ct (Q5g n p0) fun res=>Z1 Tryz.prog 0o00462 [(eI p0)] (fun d=>d=(eS res)):=
 ar (au Tryz.func306 Q5g.eq_2 (.o (.o (.o (.i .z (.i .z (.w [0,3] [] [0,3] [] (fun (s18:Int×ByteArray)=>[(0,eI s18.1),(3,eS s18.2)]) (fun s18=>[]) (fun s18=>.z) (fun s26=>.z))))))))
instance W1e:∀ (n:Nat) (p0:(List Q3)) (p1:Int) (p2:Int),Ct (Q7m n p0 p1 p2) fun res=>Z1 Tryz.prog 0o00403 [(.slice 2 (List.map W2 p0)),(eI p1),(eI p2)] (fun d=>d=(eB res)):=
 au Tryz.func259 Q7m.eq_1 (.o (.o (.o (.o (.w [] [] [0,1,2,7] [] (fun (s3024:Int)=>[(7,eI s3024)]) (fun s3024=>[]) (fun s3024=>.i (.j 4 1 [0,1,2,7] [] (fun (s3346:Unit)=>[]) (fun _=>[]) (.g [0,1,2,7] [] [] [] (.i (.o (.o (.d [0,1,2,3,4,5,6,7,8,9,10,11,12,13,14,15] [] [] .z))) (.d [0,1,2,3,4,5,6,7,8,9,10,11,12,13,14,15] [] [] .z))) (fun s3346=>.b fun (x3485:Q3)=>.le 0 1 3 Q57 x3485.ctors x3485 (.f [0,1,2,7] [] [0,1,2,7,8] [] (fun (k3592:Nat) (s3588:Unit)=>[(8,eI (k3592:Int))]) (fun k3592 s3588=>[]) (fun k3592 s3588=>.o (.j 7 0 [0,1,2,7,8] [] (fun (s3602:Unit)=>[]) (fun _=>[]) .z (fun s3602=>.j 9 0 [0,1,2,7,8] [] (fun (s3621:Unit)=>[]) (fun _=>[]) (.g [0,1,2,7,8] [] [] [] (.o (.i (.o (.d [0,1,2,3,4,5,6,7,8,9,10,11,12,13,14,15,16,17,18,19,20,21,22,23,24,25,26,27,28] [] [] .z)) (.d [0,1,2,3,4,5,6,7,8,9,10,11,12,13,14,15,16,17,18,19,20,21,22,23,24,25,26,27,28] [] [] .z)))) (fun _=>.z)))) (fun s3596=>.z)))) .z) (fun s3032=>.z))))))
instance W3e:∀ (p0:Int),Ct (Q5d p0) fun res=>Z1 Tryz.prog 0o00444 [(eI p0)] (fun d=>d=(eI res)):=
 au Tryz.func292 Q5d.eq_1 .z
instance W5l:∀ (p0:(List Int)) (p1:Int),Ct (Q34 p0 p1) fun res=>Z1 Tryz.prog 0o00260 [(.slice 1 (List.map rI p0)),(eI p1)] (fun d=>d=(eB res)):=
 au Tryz.func176 Q34.eq_1 (.o (.o (.ls 0 (.f [] [] [0,1,5] [] (fun (k44:Nat) (s40:Unit)=>[(5,eI (k44:Int))]) (fun k44 s40=>[]) (fun k44 s40=>.z) (fun s48=>.z)))))
instance W5s:∀ (p0:Z2) (p1:(List Int)),Ct (Q50 p0 p1) fun res=>Z1 Tryz.prog 0o00216 [(.agg (V2 p0)),(.slice 1 (List.map rI p1))] (fun d=>d=.tup [(.agg (V2 res.1)),(eB res.2)]):=
 au Tryz.func142 Q50.eq_1 (.o (.o (.ls 1 (.f [2,4] [0,8] [2,4,8,9,10] [0,8] (fun (k66:Nat) (s62:Z2)=>[(10,eI (k66:Int))]) (fun k66 s62=>[(0,some ⟨3,[(V2 s62)],0,0x001d⟩)]) (fun k66 s62=>.z) (fun s70=>.g [2,4] [0,1] [] [] (.d [0,1,2,3,4,5] [0] [] .z))))))
instance X2c:∀ (p0:Q8z) (q0:Q20),Ct (Q1y p0 q0) fun res=>Z1 Tryz.prog 0o00251 [(.agg (Q98 p0)),.cptr (Q5p q0)] (fun d=>d=(eB res)):=
 au Tryz.func169 Q1y.eq_1 .z
instance X99:∀ (p0:Q20) (p1:Int),Ct (Q3u p0 p1) fun res=>Z1 Tryz.prog 0o00225 [(.agg (Q5p p0)),(eI p1)] (fun d=>d=(eB res)):=
 au Tryz.func149 Q3u.eq_1 .z
instance W0z:∀ (p0:(List W8)) (p1:Int),Ct (Q2h p0 p1) fun res=>Z1 Tryz.prog 0o00353 [(.slice 3 (List.map Q15 p0)),(eI p1)] (fun d=>d=(.slice 3 (List.map Q15 res))):=
 au Tryz.func235 Q2h.eq_1 (.o (.o (.ls 0 (.f [5] [8] [0,1,5,6] [8] (fun (k71:Nat) (s67:(List W8))=>[(5,.sl 3 8 (s67).length),(6,eI (k71:Int))]) (fun k71 s67=>[(8,some ⟨3,(List.map Q15 s67),0,0x0125⟩)]) (fun k71 s67=>.o (.j 5 0 [0,1,5,6] [0] (fun (s78:(List W8))=>[(5,.sl 3 0 (s78).length)]) (fun s78=>[(0,some ⟨3,(List.map Q15 s78),0,0x0125⟩)]) .z (fun _=>.z))) (fun s75=>.z)))))
end Go.Proofs.YtjgapphpbkapmaaGreat
