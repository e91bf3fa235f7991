import Derived.Test.YtjgapphpbkapmaaGreatJMir
import Derived.Test.YtjgapphpbkapmaaGreatJAuto
set_option linter.unusedSimpArgs false
set_option linter.unusedVariables false
namespace Go.Proofs.YtjgapphpbkapmaaGreat
open Go Go.RowKit
set_option maxRecDepth 100000
set_option maxHeartbeats 20000000
instance W94:∀ (p0:Q4),Ct (Z05 p0) fun res=>Z2 Tryz.prog 0o00372 [(.agg (W0 p0))] (fun d=>d=(eI res)):=
 au Tryz.func250 Z05.eq_1 .z
instance W8x:∀ (p0:Int),Ct (Q6r p0) fun res=>Z2 Tryz.prog 0o00444 [(eI p0)] (fun d=>d=(eI res)):=
 au Tryz.func292 Q6r.eq_1 .z
instance W8y:∀ (p0:(List Z1)) (p1:Int),Ct (Q3a p0 p1) fun res=>Z2 Tryz.prog 0o00410 [(.slice 3 (List.map Y2 p0)),(eI p1)] (fun d=>d=(eI res)):=
 au Tryz.func264 Q3a.eq_1 (.o (.o (.ls 0 (.f [] [] [0,1,5] [] (fun (k44:Nat) (s40:Unit)=>[(5,eI (k44:Int))]) (fun k44 s40=>[]) (fun k44 s40=>.z) (fun s48=>.z)))))
instance X1s:∀ (p0:(List Int)) (p1:(List Int)),Ct (Q02 p0 p1) fun res=>Z2 Tryz.prog 0o00030 [(.slice 1 (List.map rI p0)),(.slice 1 (List.map rI p1))] (fun d=>d=(eB res)):=
 au Tryz.func24 Q02.eq_1 (.o (.o (.i .z (.ls 0 (.f [] [] [0,1,5] [] (fun (k56:Nat) (s52:Unit)=>[(5,eI (k56:Int))]) (fun k56 s52=>[]) (fun k56 s52=>.o (.g [0,1,5] [] [] [] (.o (.d [0,1,2,3,4,5,6,7,8] [] [] .z)))) (fun s60=>.z))))))
instance W9e:∀ (p0:Int) (p1:Int) (p2:Int),Ct (V8 p0 p1 p2) fun res=>Z2 Tryz.prog 0o00067 [(eI p0),(eI p1),(eI p2)] (fun d=>d=(eB res)):=
 au Tryz.func55 V8.eq_1 .z
instance Z9d:∀ (p0:(List Q6)) (p1:(Q6→Option Bool)) {p1_f:FuncId} {p1_c:List D} [p1_i:CF1 (fun a0=>(.agg (V1 a0))) (fun r=>(eB r)) p1 p1_f p1_c],Ct (Q3u p0 p1) fun res=>Z2 Tryz.prog 0o00264 [(.slice 9 (List.map V1 p0)),.clos p1_f p1_c] (fun d=>d=(eI res)):=
 au Tryz.func180 Q3u.eq_1 (.o (.o (.o (.o (.o (.ls 0 (.f [] [] [0,1,7,8] [] (fun (k54:Nat) (s50:Unit)=>[(8,eI (k54:Int))]) (fun k54 s50=>[]) (fun k54 s50=>.z) (fun s58=>.z))))))))
instance W0s:∀ (n:Nat) (p0:Q0),Ct (Q17 n p0) fun res=>Z2 Tryz.prog 0o00164 [(.agg (Z0 p0))] (fun d=>d=(eI res)):=
 ar (au Tryz.func116 Q17.eq_2 (.o (.o (.o (.j 2 0 [1,3] [0] (fun (s2:Int)=>[(3,eI s2)]) (fun _=>[]) .z (fun s2=>.ls 10 (.f [3] [] [1,3,10,11,12] [0] (fun (k86:Nat) (s82:Int)=>[(3,eI s82),(12,eI (k86:Int))]) (fun k86 s82=>[]) (fun k86 s82=>.o (.j 6 0 [1,3,10,11,12] [0] (fun (s94:Int)=>[(3,eI s94)]) (fun _=>[]) .z (fun _=>.z))) (fun s90=>.z))))))))
set_option maxRecDepth 100000 in
theorem Z4j (p0:(List Int)) (res:(List Int)) (h:Y6 p0=some res):J0 Tryz.prog 0o00167 [] [(.slice 1 (List.map rI p0))] (fun H d=>H=[some ⟨1,List.map rI res,0,0x0003⟩]∧d=.sl 1 0 res.length):=by
  unfold Y6 at h
  refine J0.of (res:=[.tmp 2]) Q2m Tryz.func119 (by decide) rfl (Nat.le_of_ble_eq_true rfl) rfl rfl (fun β hβ=>?_)
  refine TrD.seq ?_
  refine TrD.regK Q2m (fun K hK=>?_)
  simp
  refine hK _ ?_
  refine TrD.seq ?_
  refine TrD.seq ?_
  refine TrD.regK Q2m (fun K hK=>?_)
  simp
  refine ⟨?_,fun hnil=>?_⟩
  · refine hK _ ?_
    refine TrD.cond (b:=false) (by simp) (fun hb=>by cases hb) (fun hb=>?_)
    refine TrD.skip ?_
    refine TrD.seq ?_
    obtain ⟨x3,hx3,h⟩:=bindE h
    have hx3_r:=(Q86 hx3).2
    try simp only [U5,U3,U4,U7,Nat.zero_add,Nat.add_zero,Nat.reduceAdd,Z2o,Z2g] at hx3_r
    obtain hhx3:=Z5i hx3
    subst hhx3
    refine TrD.regK Q2m (fun K hK=>?_)
    simp [hx3_r]
    refine hK _ ?_
    obtain rfl:=Option.some.inj h
    refine TrD.ret ?_
    refine Z2e (σ':=⟨(updD (fun _=>.any) 2 (.sl 1 0 (p0).length)),hOfO [some ⟨1,(List.map rI p0),0,0x0003⟩],1,8⟩) ?_ ?_
    · exact V0.canonV 0 [40] _ _ hβ (J9 (by decide)) (by decide) (Q38 (v_of (d0:=(.sl 1 40 (p0).length)) (by simp [hx3_r]) (v_sl rfl)) (Q4z _)) (.cons (lv (L:=⟨1,(List.map rI p0),0,0x0003⟩) (by simp [hx3_r]) rfl rfl (by simp [hx3_r]) (Q68 (by simp [hx3_r]) (Q7 (fun _=>by simp) _))) .nil)
    · dsimp only [resD]
      exact ⟨[some ⟨1,(List.map rI p0),0,0x0003⟩],[],rfl,by simp,by simp,.inl rfl,by simp [Q4m]⟩
  · replace h:some ([])=some res:=by simp only [hnil] at h;simpa [app] using h
    refine hK _ ?_
    refine TrD.cond (b:=true) (by simp) (fun hb=>?_) (fun hb=>by cases hb)
    refine TrD.seq ?_
    refine TrD.regK Q2m (fun K hK=>?_)
    simp
    refine hK _ ?_
    obtain rfl:=Option.some.inj h
    refine TrD.ret ?_
    refine Z2e (σ':=⟨(updD (fun _=>.any) 2 (.sl 1 0 0)),hOfO [some ⟨1,(List.map rI []),0,0x0003⟩],1,8⟩) ?_ ?_
    · refine (V0.ownNil (s:=2) (by simp) 1 0x0003).trans ?_
      exact V0.canonV 0 [32] _ _ hβ (J9 (by decide)) (by decide) (Q38 (v_of (d0:=(.sl 1 32 0)) (by simp) (v_sl rfl)) (Q4z _)) (.cons (lv (L:=⟨1,(List.map rI []),0,0x0003⟩) (by simp) rfl rfl (by simp) (Q68 (by simp) (Q7 (fun _=>by simp) _))) .nil)
    · dsimp only [resD]
      exact ⟨[some ⟨1,(List.map rI []),0,0x0003⟩],[],rfl,by simp,by simp,.inl rfl,by simp [Q4m]⟩
instance X8v:∀ (p0:(List Int)),Ct (Y6 p0) fun res=>J0 Tryz.prog 0o00167 [] [(.slice 1 (List.map rI p0))] (fun H d=>H=[some ⟨1,List.map rI res,0,0x0003⟩]∧d=.sl 1 0 res.length):=fun p0=>⟨Z4j p0⟩
instance X1t:∀ (p0:Grow) (q0:Grow),Ct (J7 p0 q0) fun res=>Z2 Tryz.prog 0o00303 [(.agg (Q4b p0)),.cptr (Q4b q0)] (fun d=>d=(eB res)):=
 au Tryz.func195 J7.eq_1 .z
instance Z1v:∀ (n:Nat) (p0:(List Q2)) (p1:Int) (p2:Int) (p3:(Q2→Q2→Option Int)) {p3_f:FuncId} {p3_c:List D} [p3_i:CF2 (fun a0=>(.agg (Z3 a0))) (fun a1=>(.agg (Z3 a1))) (fun r=>(eI r)) p3 p3_f p3_c],Ct (V7 n p0 p1 p2 p3) fun res=>J0 Tryz.prog 0o00325 [⟨2,List.map Z3 p0,0,0x008b⟩] [.sl 2 0 p0.length,(eI p1),(eI p2),.clos p3_f p3_c] (fun H d=>H=[some ⟨2,List.map Z3 res,0,0x008b⟩]∧d=.tup []):=
 au Tryz.func213 V7.eq_1 (.o (.o (.o (.o (.o (.o (.o (.o (.w [] [0] [0,1,2,3,8] [0] (fun (s464:(List Q2)×Int)=>[(0,.sl 2 0 (s464.1).length),(8,eI s464.2)]) (fun s464=>[(0,some ⟨2,(List.map Z3 s464.1),0,0x008b⟩)]) (fun s464=>.i (.w [0,1,2,3,8] [0] [0,1,2,3,8,9] [0] (fun (s660:(List Q2)×Int)=>[(0,.sl 2 0 (s660.1).length),(9,eI s660.2)]) (fun s660=>[(0,some ⟨2,(List.map Z3 s660.1),0,0x008b⟩)]) (fun s660=>.g [0,1,2,3,8,9] [0] [] [] (.i (.o (.o (.o (.d [0,1,2,3,4,5,6,7,8,9,10,11,12,13,14,15,16] [0] [] (.i (.g [0,1,2,3,8,9] [0] [] [] (.o (.o (.o (.d [0,1,2,3,4,5,6,7,8,9,10,11,12,13,14,15,16,17] [0] [51,52] .z))))) .z))))) (.d [0,1,2,3,4,5,6,7,8,9,10,11,12,13,14,15,16] [] [] .z))) (fun s668=>.z)) .z) (fun s472=>.z))))))))))
instance X6w:∀ (p0:(List Int)),Ct (Q4f p0) fun res=>Z2 Tryz.prog 0o00110 [(.slice 1 (List.map rI p0))] (fun d=>d=.tup []):=
 au Tryz.func72 Q4f.eq_1 .z
instance V1l:∀ (p0:Q1) (p1:(List Int)),Ct (Q6f p0 p1) fun res=>Z2 Tryz.prog 0o00216 [(.agg (X1 p0)),(.slice 1 (List.map rI p1))] (fun d=>d=.tup [(.agg (X1 res.1)),(eB res.2)]):=
 au Tryz.func142 Q6f.eq_1 (.o (.o (.ls 1 (.f [2,4] [0,8] [2,4,8,9,10] [0,8] (fun (k66:Nat) (s62:Q1)=>[(10,eI (k66:Int))]) (fun k66 s62=>[(0,some ⟨3,[(X1 s62)],0,0x001d⟩)]) (fun k66 s62=>.z) (fun s70=>.g [2,4] [0,1] [] [] (.d [0,1,2,3,4,5] [0] [] .z))))))
instance W6p:∀ (n:Nat) (p0:Q1) (p1:Int),Ct (Q3t n p0 p1) fun res=>Z2 Tryz.prog 0o00144 [(.agg (X1 p0)),(eI p1)] (fun d=>d=(eI res)):=
 ar (au Tryz.func100 Q3t.eq_2 (.o (.o (.b fun (p0:Q1)=>.o (.lc 0 2 3 X1 p0.kids (.f [5] [] [1,2,5,6] [0] (fun (k80:Nat) (s76:Int)=>[(5,eI s76),(6,eI (k80:Int))]) (fun k80 s76=>[]) (fun k80 s76=>.z) (fun s84=>.z)))))))
instance W4f:∀ (p0:(List (List Q0))),Ct (Q3y p0) fun res=>Z2 Tryz.prog 0o00254 [(.slice 1 (List.map (rL 6 Z0) p0))] (fun d=>d=(.slice 1 (List.map (rL 6 Z0) res))):=
 au Tryz.func172 Q3y.eq_1 (.o (.pF 8 (.ls 0 (.f [3] [16] [0,3,4] [16] (fun (k12196:Nat) (s12192:(List (List Q0)))=>[(3,.sl 1 16 (s12192).length),(4,eI (k12196:Int))]) (fun k12196 s12192=>[(16,some ⟨1,(List.map (rL 6 Z0) s12192),0,0x005e⟩)]) (fun k12196 s12192=>.b fun (x12197:(List Q0))=>.ll 0 (.f [0,4,5] [33] [0,3,4,5,6] [0,33] (fun (k13570:Nat) (s13566:(List (List Q0)))=>[(5,.sl 1 33 (s13566).length),(6,eI (k13570:Int))]) (fun k13570 s13566=>[(33,some ⟨1,(List.map (rL 6 Z0) s13566),0,0x005e⟩)]) (fun k13570 s13566=>.o (.i (.le 0 0 6 Z0 x12197 x12197 (.f [0,3,4,5,6] [0,1] [0,3,4,5,6,7] [0,1] (fun (k13668:Nat) (s13664:(List (List Q0)))=>[(5,.sl 1 1 (s13664).length),(7,eI (k13668:Int))]) (fun k13668 s13664=>[(1,some ⟨1,(List.map (rL 6 Z0) s13664),0,0x005e⟩)]) (fun k13668 s13664=>.o (.i (.g [0,3,4,5,6,7] [0,1] [] [] (.o (.o (.o (.dz [0,2,3,4,5,7,8,9,10,11,12,13,1,6,14,15,16,17,18] [0] [1048632] [] (.pF 2097168 .z)))))) .z)) (fun s13672=>.z))) .z)) (fun s13574=>.z))) (fun s12200=>.z)))))
instance W6d:∀ (p0:V9),Ct (Q3m p0) fun res=>Z2 Tryz.prog 0o00352 [(.agg (Q29 p0))] (fun d=>d=(eI res)):=
 au Tryz.func234 Q3m.eq_1 (.b fun (p0:V9)=>.lc 0 1 6 Z0 p0.pats (.f [] [] [1,3] [0] (fun (k44:Nat) (s40:Unit)=>[(3,eI (k44:Int))]) (fun k44 s40=>[]) (fun k44 s40=>.z) (fun s48=>.z)))
instance W6e:∀ (p0:(List V9)) (p1:Int),Ct (Q3n p0 p1) fun res=>Z2 Tryz.prog 0o00425 [(.slice 3 (List.map Q29 p0)),(eI p1)] (fun d=>d=(eI res)):=
 au Tryz.func277 Q3n.eq_1 (.o (.o (.ls 0 (.f [5] [] [0,1,5,6] [] (fun (k71:Nat) (s67:Int)=>[(5,eI s67),(6,eI (k71:Int))]) (fun k71 s67=>[]) (fun k71 s67=>.o (.j 5 0 [0,1,5,6] [] (fun (s78:Int)=>[(5,eI s78)]) (fun _=>[]) .z (fun _=>.z))) (fun s75=>.z)))))
end Go.Proofs.YtjgapphpbkapmaaGreat
