import Derived.Test.YtgjpamkllimhdaaGreatJMir
import Derived.Test.YtgjpamkllimhdaaGreatJAuto
set_option linter.unusedSimpArgs false
set_option linter.unusedVariables false
namespace Go.Proofs.YtgjpamkllimhdaaGreat
open Go Go.RowKit
set_option maxRecDepth 100000
set_option maxHeartbeats 20000000
instance W9r:∀ (p0:(List Int)),Ct (Q1h p0) fun res=>Y8 Tryz.prog 0o00056 [] [(.slice 1 (List.map (rK .u8) p0))] (fun H d=>H=[some ⟨2,[(J3 res)],0,0x0093⟩]∧d=.ptr 2 0 0 0):=
 au Tryz.func46 Q1h.eq_1 (.o (.j 1 0 [0] [] (fun (s3:(List Int))=>[(0,.slice 1 (List.map (rK .u8) s3))]) (fun _=>[]) .z (fun _=>.z)))
instance W9m:Ct (Q5h) fun res=>Z1 Tryz.prog 0o00301 [] (fun d=>d=(.slice 1 (List.map rS res))):=
 au Tryz.func193 Q5h.eq_1 .z
instance V42:∀ (p0:Int) (p1:Q6),Ct (Q9w p0 p1) fun res=>Z1 Tryz.prog 0o00300 [(eI p0),(.agg (W0 p1))] (fun d=>d=(eB res)):=
 au Tryz.func192 Q9w.eq_1 .z
instance V1v:∀ (p0:(List ByteArray)) (p1:ByteArray),Ct (Z17 p0 p1) fun res=>Z1 Tryz.prog 0o00357 [(.slice 1 (List.map rS p0)),(eS p1)] (fun d=>d=(eI res)):=
 au Tryz.func239 Z17.eq_1 (.o (.o (.i .z (.ls 0 (.f [] [] [0,1,5] [] (fun (k46:Nat) (s42:Unit)=>[(5,eI (k46:Int))]) (fun k46 s42=>[]) (fun k46 s42=>.z) (fun s50=>.z))))))
instance W7e:∀ (p0:Q8g) (p1:Int),Ct (Q9b p0 p1) fun res=>Z1 Tryz.prog 0o00254 [(.agg (Q7d p0)),(eI p1)] (fun d=>d=(eI res)):=
 au Tryz.func172 Q9b.eq_1 .z
instance V1s:∀ (p0:Q6),Ct (Z15 p0) fun res=>Z1 Tryz.prog 0o00304 [(.agg (W0 p0))] (fun d=>d=(eI res)):=
 au Tryz.func196 Z15.eq_1 .z
instance V1l:∀ (p0:(List Z2)) (p1:Int),Ct (Q3n p0 p1) fun res=>Z1 Tryz.prog 0o00320 [(.slice 3 (List.map Y7 p0)),(eI p1)] (fun d=>d=(eI res)):=
 au Tryz.func208 Q3n.eq_1 (.o (.o (.ls 0 (.f [] [] [0,1,5] [] (fun (k44:Nat) (s40:Unit)=>[(5,eI (k44:Int))]) (fun k44 s40=>[]) (fun k44 s40=>.z) (fun s48=>.z)))))
instance X13:∀ (p0:(List Z2)) (p1:(Z2→Option Bool)) {p1_f:FuncId} {p1_c:List D} [p1_i:CF1 (fun a0=>(.agg (Y7 a0))) (fun r=>(eB r)) p1 p1_f p1_c],Ct (Q3e p0 p1) fun res=>Z1 Tryz.prog 0o00362 [(.slice 3 (List.map Y7 p0)),.clos p1_f p1_c] (fun d=>d=(eI res)):=
 au Tryz.func242 Q3e.eq_1 (.o (.o (.o (.o (.o (.ls 0 (.f [] [] [0,1,7,8] [] (fun (k54:Nat) (s50:Unit)=>[(8,eI (k54:Int))]) (fun k54 s50=>[]) (fun k54 s50=>.z) (fun s58=>.z))))))))
instance X4y:∀ (p0:(List Z2)) (p1:Z2),Ct (Q39 p0 p1) fun res=>Z1 Tryz.prog 0o00344 [(.slice 3 (List.map Y7 p0)),(.agg (Y7 p1))] (fun d=>d=(eI res)):=
 au Tryz.func228 Q39.eq_1 (.o (.o (.ls 0 (.f [] [] [0,3,7,8] [0] (fun (k44:Nat) (s40:Unit)=>[(8,eI (k44:Int))]) (fun k44 s40=>[]) (fun k44 s40=>.o (.g [0,3,5,7,8] [0] [] [] (.d [0,1,2,3,4,5] [0] [] .z))) (fun s48=>.z)))))
instance W3e:∀ (n:Nat) (p0:Q0),Ct (Q1d n p0) fun res=>Z1 Tryz.prog 0o00153 [(.agg (Q9 p0))] (fun d=>d=(eI res)):=
 ar (au Tryz.func107 Q1d.eq_2 (.o (.o (.o (.j 2 0 [1,3] [0] (fun (s2:Int)=>[(3,eI s2)]) (fun _=>[]) .z (fun s2=>.ls 10 (.f [3] [] [1,3,10,11,12] [0] (fun (k86:Nat) (s82:Int)=>[(3,eI s82),(12,eI (k86:Int))]) (fun k86 s82=>[]) (fun k86 s82=>.o (.j 6 0 [1,3,10,11,12] [0] (fun (s94:Int)=>[(3,eI s94)]) (fun _=>[]) .z (fun _=>.z))) (fun s90=>.z))))))))
instance W7a:∀ (p0:(List (List Q0))),Ct (Q4j p0) fun res=>Z1 Tryz.prog 0o00167 [(.slice 1 (List.map (rL 6 Q9) p0))] (fun d=>d=(.slice 1 (List.map (rL 6 Q9) res))):=
 au Tryz.func119 Q4j.eq_1 (.o (.pF 8 (.ls 0 (.f [3] [16] [0,3,4] [16] (fun (k12196:Nat) (s12192:(List (List Q0)))=>[(3,.sl 1 16 (s12192).length),(4,eI (k12196:Int))]) (fun k12196 s12192=>[(16,some ⟨1,(List.map (rL 6 Q9) s12192),0,0x0044⟩)]) (fun k12196 s12192=>.b fun (x12197:(List Q0))=>.ll 0 (.f [0,4,5] [33] [0,3,4,5,6] [0,33] (fun (k13570:Nat) (s13566:(List (List Q0)))=>[(5,.sl 1 33 (s13566).length),(6,eI (k13570:Int))]) (fun k13570 s13566=>[(33,some ⟨1,(List.map (rL 6 Q9) s13566),0,0x0044⟩)]) (fun k13570 s13566=>.o (.i (.le 0 0 6 Q9 x12197 x12197 (.f [0,3,4,5,6] [0,1] [0,3,4,5,6,7] [0,1] (fun (k13668:Nat) (s13664:(List (List Q0)))=>[(5,.sl 1 1 (s13664).length),(7,eI (k13668:Int))]) (fun k13668 s13664=>[(1,some ⟨1,(List.map (rL 6 Q9) s13664),0,0x0044⟩)]) (fun k13668 s13664=>.o (.i (.g [0,3,4,5,6,7] [0,1] [] [] (.o (.o (.o (.dz [0,2,3,4,5,7,8,9,10,11,12,13,1,6,14,15,16,17,18] [0] [1048632] [] (.pF 2097168 .z)))))) .z)) (fun s13672=>.z))) .z)) (fun s13574=>.z))) (fun s12200=>.z)))))
instance V1p:∀ (n:Nat) (p0:Q1),Ct (Q3q n p0) fun res=>Z1 Tryz.prog 0o00143 [(.agg (X2 p0))] (fun d=>d=(.agg (X2 res))):=
 ar (au Tryz.func99 Q3q.eq_2 (.o (.o (.b fun (p0:Q1)=>.pC 56 2 3 0x001d (.lc 0 2 3 X2 p0.kids (.f [2,3] [8,56,80] [1,2,3,4] [0,8,56,80] (fun (k56:Nat) (s52:(List Q1))=>[(4,eI (k56:Int))]) (fun k56 s52=>[(1000000056,some ⟨3,[[(eI p0.ctor),(eI p0.n),(.sl 3 80 (s52).length)]],0,0x001d⟩),(80,some ⟨3,(List.map X2 s52),0,0x001d⟩)]) (fun k56 s52=>.o (.g [1,2,3,4] [0,1,2,3] [] [(1000000002,some ⟨3,[[(eI p0.ctor),(eI p0.n),(.sl 3 3 (s52).length)]],0,0x001d⟩)] (.o (.o (.d [0,1,2,3,4,5,6,7,8,9,10,11] [0,2] [27] .z))))) (fun s60=>.z)))))))
set_option maxRecDepth 100000 in
theorem Z5k (p0:(List Grow))(res:(List Grow))(h:Q2c p0=some res):Y8 Tryz.prog 0o00261 [] [(.slice 3 (List.map Q4x p0))] (fun H d=>H=[some ⟨3,List.map Q4x res,0,0x007b⟩]∧d=.sl 3 0 res.length):=by
  unfold Q2c at h
  refine Y8.of (res:=[.tmp 2]) Q94 Tryz.func177 (by decide) rfl (Nat.le_of_ble_eq_true rfl) rfl rfl (fun β hβ=>?_)
  refine TrD.seq ?_
  refine TrD.regK Q94 (fun K hK=>?_)
  simp
  refine hK _ ?_
  refine TrD.seq ?_
  refine TrD.seq ?_
  refine TrD.regK Q94 (fun K hK=>?_)
  simp
  refine ⟨?_,fun hnil=>?_⟩
  · refine hK _ ?_
    refine TrD.cond (b:=false) (by simp) (fun hb=>by cases hb) (fun hb=>?_)
    refine TrD.skip ?_
    refine TrD.seq ?_
    obtain ⟨x3,hx3,h⟩:=bindE h
    have hx3_r:=(Q8v hx3).2
    try simp only [U5,U3,U4,U7,Nat.zero_add,Nat.add_zero,Nat.reduceAdd,Z3y,Z3p] at hx3_r
    obtain hhx3:=Z6p hx3
    subst hhx3
    refine TrD.regK Q94 (fun K hK=>?_)
    simp [hx3_r]
    refine hK _ ?_
    obtain rfl:=Option.some.inj h
    refine TrD.ret ?_
    refine Z3m (σ':=⟨(updD (fun _=>.any) 2 (.sl 3 0 (p0).length)),hOfO [some ⟨3,(List.map Q4x p0),0,0x007b⟩],1,8⟩) ?_ ?_
    · exact Y4.canonV 0 [40] _ _ hβ (Q78 (by decide)) (by decide) (Z09 (v_of (d0:=(.sl 3 40 (p0).length)) (by simp [hx3_r]) (v_sl rfl)) (Z6t _)) (.cons (lv (L:=⟨3,(List.map Q4x p0),0,0x007b⟩) (by simp [hx3_r]) rfl rfl (by simp [hx3_r]) (Q6u (by simp [hx3_r]) (Q8 Z9y _))) .nil)
    · dsimp only [resD]
      exact ⟨[some ⟨3,(List.map Q4x p0),0,0x007b⟩],[],rfl,by simp,by simp,.inl rfl,by simp [Q98]⟩
  · replace h:some ([])=some res:=by simp only [hnil] at h;simpa [app] using h
    refine hK _ ?_
    refine TrD.cond (b:=true) (by simp) (fun hb=>?_) (fun hb=>by cases hb)
    refine TrD.seq ?_
    refine TrD.regK Q94 (fun K hK=>?_)
    simp
    refine hK _ ?_
    obtain rfl:=Option.some.inj h
    refine TrD.ret ?_
    refine Z3m (σ':=⟨(updD (fun _=>.any) 2 (.sl 3 0 0)),hOfO [some ⟨3,(List.map Q4x []),0,0x007b⟩],1,8⟩) ?_ ?_
    · refine (Y4.ownNil (s:=2) (by simp) 3 0x007b).trans ?_
      exact Y4.canonV 0 [32] _ _ hβ (Q78 (by decide)) (by decide) (Z09 (v_of (d0:=(.sl 3 32 0)) (by simp) (v_sl rfl)) (Z6t _)) (.cons (lv (L:=⟨3,(List.map Q4x []),0,0x007b⟩) (by simp) rfl rfl (by simp) (Q6u (by simp) (Q8 Z9y _))) .nil)
    · dsimp only [resD]
      exact ⟨[some ⟨3,(List.map Q4x []),0,0x007b⟩],[],rfl,by simp,by simp,.inl rfl,by simp [Q98]⟩
instance W1b:∀ (p0:(List Grow)),Ct (Q2c p0) fun res=>Y8 Tryz.prog 0o00261 [] [(.slice 3 (List.map Q4x p0))] (fun H d=>H=[some ⟨3,List.map Q4x res,0,0x007b⟩]∧d=.sl 3 0 res.length):=fun p0=>⟨Z5k p0⟩
end Go.Proofs.YtgjpamkllimhdaaGreat
