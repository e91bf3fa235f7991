import Derived.Test.YtgjpamkllimhdaaGreatJMir
import Derived.Test.YtgjpamkllimhdaaGreatJAuto
set_option linter.unusedSimpArgs false
set_option linter.unusedVariables false
namespace Go.Proofs.YtgjpamkllimhdaaGreat
open Go Go.RowKit
set_option maxRecDepth 100000
set_option maxHeartbeats 20000000
instance W9l:∀ (n:Nat) (p0:(List Q4)) (p1:Int) (p2:Int),Ct (Z04 n p0 p1 p2) fun res=>Z1 Tryz.prog 0o00277 [(.slice 2 (List.map W1 p0)),(eI p1),(eI p2)] (fun d=>d=(eB res)):=
 au Tryz.func191 Z04.eq_1 (.o (.o (.o (.o (.w [] [] [0,1,2,7] [] (fun (s3024:Int)=>[(7,eI s3024)]) (fun s3024=>[]) (fun s3024=>.i (.j 4 1 [0,1,2,7] [] (fun (s3346:Unit)=>[]) (fun _=>[]) (.g [0,1,2,7] [] [] [] (.i (.o (.o (.d [0,1,2,3,4,5,6,7,8,9,10,11,12,13,14,15] [] [] .z))) (.d [0,1,2,3,4,5,6,7,8,9,10,11,12,13,14,15] [] [] .z))) (fun s3346=>.b fun (x3485:Q4)=>.le 0 1 3 Q7d x3485.ctors x3485 (.f [0,1,2,7] [] [0,1,2,7,8] [] (fun (k3592:Nat) (s3588:Unit)=>[(8,eI (k3592:Int))]) (fun k3592 s3588=>[]) (fun k3592 s3588=>.o (.j 7 0 [0,1,2,7,8] [] (fun (s3602:Unit)=>[]) (fun _=>[]) .z (fun s3602=>.j 9 0 [0,1,2,7,8] [] (fun (s3621:Unit)=>[]) (fun _=>[]) (.g [0,1,2,7,8] [] [] [] (.o (.i (.o (.d [0,1,2,3,4,5,6,7,8,9,10,11,12,13,14,15,16,17,18,19,20,21,22,23,24,25,26,27,28] [] [] .z)) (.d [0,1,2,3,4,5,6,7,8,9,10,11,12,13,14,15,16,17,18,19,20,21,22,23,24,25,26,27,28] [] [] .z)))) (fun _=>.z)))) (fun s3596=>.z)))) .z) (fun s3032=>.z))))))
instance V20:∀ (n:Nat) (p0:ByteArray) (p1:Int),Ct (Q3r n p0 p1) fun res=>Z1 Tryz.prog 0o00335 [(eS p0),(.val (.int .u8 p1))] (fun d=>d=(.slice 1 (List.map rS res))):=
 au Tryz.func221 Q3r.eq_1 (.o (.o (.o (.w [5] [8] [0,1,5,6,7] [8] (fun (s203:(List ByteArray)×Int×Int)=>[(5,.sl 1 8 (s203.1).length),(6,eI s203.2.1),(7,eI s203.2.2)]) (fun s203=>[(8,some ⟨1,(List.map rS s203.1),0,0x0009⟩)]) (fun s203=>.i (.j 6 0 [0,1,5,6,7] [0] (fun (s230:(List ByteArray)×Int)=>[(5,.sl 1 0 (s230.1).length),(6,eI s230.2)]) (fun s230=>[(0,some ⟨1,(List.map rS s230.1),0,0x0009⟩)]) .z (fun _=>.z)) .z) (fun s211=>.z)))))
instance V1k:∀ (p0:Int),Ct (Q7h p0) fun res=>Z1 Tryz.prog 0o00350 [(eI p0)] (fun d=>d=(eI res)):=
 au Tryz.func232 Q7h.eq_1 .z
instance W9x:∀ (p0:(List Q4)) (p1:Q6),Ct (Q14 p0 p1) fun res=>Z1 Tryz.prog 0o00161 [(.slice 2 (List.map W1 p0)),(.agg (W0 p1))] (fun d=>d=(.slice 1 (List.map rI res))):=
 au Tryz.func113 Q14.eq_1 (.o (.o (.j 2 0 [5] [9000] (fun (s116:(List Int))=>[(5,.sl 1 9000 (s116).length)]) (fun s116=>[(9000,some ⟨1,(List.map rI s116),0,0x0003⟩)]) (.i (.o (.pN 5 1 0x0003 (.ls 16 (.f [5] [112] [3,5,16,17,18] [0,112] (fun (k198:Nat) (s194:(List Int))=>[(5,.sl 1 112 (s194).length),(18,eI (k198:Int))]) (fun k198 s194=>[(112,some ⟨1,(List.map rI s194),0,0x0003⟩)]) (fun k198 s194=>.o (.j 5 0 [3,5,16,17,18] [0,1] (fun (s217:(List Int))=>[(5,.sl 1 1 (s217).length)]) (fun s217=>[(1,some ⟨1,(List.map rI s217),0,0x0003⟩)]) .z (fun _=>.z))) (fun s202=>.z))))) (.pN 5 1 0x0003 .z)) (fun _=>.z))))
instance W3c:∀ (p0:Int),Ct (Q80 p0) fun res=>Z1 Tryz.prog 0o00245 [(.val (.int .u64 p0))] (fun d=>d=(eI res)):=
 au Tryz.func165 Q80.eq_1 (.o (.j 1 0 [0,2] [] (fun (s2:Int×Int)=>[(0,.val (.int .u64 s2.1)),(2,eI s2.2)]) (fun _=>[]) .z (fun s2=>.j 4 0 [0,2] [] (fun (s7:Int×Int)=>[(0,.val (.int .u64 s7.1)),(2,eI s7.2)]) (fun _=>[]) .z (fun s7=>.j 7 0 [0,2] [] (fun (s12:Int×Int)=>[(0,.val (.int .u64 s12.1)),(2,eI s12.2)]) (fun _=>[]) .z (fun _=>.z)))))
instance W7l:∀ (n:Nat) (p0:Q1),Ct (Q29 n p0) fun res=>Z1 Tryz.prog 0o00137 [(.agg (X2 p0))] (fun d=>d=(.agg (X2 res))):=
 ar (au Tryz.func95 Q29.eq_2 (.o (.o (.b fun (p0:Q1)=>.pC 56 2 3 0x001d (.ls 12 (.f [2,3] [8,56,104] [2,3,12,13,14] [8,56,104] (fun (k56:Nat) (s52:(List Q1))=>[(14,eI (k56:Int))]) (fun k56 s52=>[(1000000056,some ⟨3,[[(eI p0.ctor),(eI p0.n),(.sl 3 104 (s52).length)]],0,0x001d⟩),(104,some ⟨3,(List.map X2 s52),0,0x001d⟩)]) (fun k56 s52=>.o (.g [2,3,5,12,13,14] [0,1,2,27] [] [(1000000001,some ⟨3,[[(eI p0.ctor),(eI p0.n),(.sl 3 2 (s52).length)]],0,0x001d⟩)] (.o (.o (.d [0,1,2,3,4,5,6,7] [1,3] [24] .z))))) (fun s60=>.z)))))))
instance X3w:∀ (p0:(List W9)) (p1:(W9→Option Bool)) {p1_f:FuncId} {p1_c:List D} [p1_i:CF1 (fun a0=>(.agg (Q5n a0))) (fun r=>(eB r)) p1 p1_f p1_c],Ct (Q1j p0 p1) fun res=>Z1 Tryz.prog 0o00163 [(.slice 4 (List.map Q5n p0)),.clos p1_f p1_c] (fun d=>d=(eI res)):=
 au Tryz.func115 Q1j.eq_1 (.o (.o (.o (.o (.o (.ls 0 (.f [] [] [0,1,7,8] [] (fun (k54:Nat) (s50:Unit)=>[(8,eI (k54:Int))]) (fun k54 s50=>[]) (fun k54 s50=>.z) (fun s58=>.z))))))))
instance W74:∀ (p0:X0) (p1:Q1),Ct (Q5o p0 p1) fun res=>Z1 Tryz.prog 0o00046 [(.agg (Q21 p0)),(.agg (X2 p1))] (fun d=>d=(eB res)):=
 au Tryz.func38 Q5o.eq_1 .z
set_option maxRecDepth 100000 in
theorem Z1m (p0:(List Q2))(res:(List Q2))(h:Q0f p0=some res):Y8 Tryz.prog 0o00176 [] [(.slice 2 (List.map Z0 p0))] (fun H d=>H=[some ⟨2,List.map Z0 res,0,0x0069⟩]∧d=.sl 2 0 res.length):=by
  unfold Q0f at h
  refine Y8.of (res:=[.tmp 2]) Q94 Tryz.func126 (by decide) rfl (Nat.le_of_ble_eq_true rfl) rfl rfl (fun β hβ=>?_)
  refine TrD.seq ?_
  refine TrD.regK Q94 (fun K hK=>?_)
  simp
  refine hK _ ?_
  refine TrD.seq ?_
  refine TrD.seq ?_
  refine TrD.regK Q94 (fun K hK=>?_)
  simp
  refine ⟨?_,fun hnil=>?_⟩
  · refine hK _ ?_
    refine TrD.cond (b:=false) (by simp) (fun hb=>by cases hb) (fun hb=>?_)
    refine TrD.skip ?_
    refine TrD.seq ?_
    obtain ⟨x3,hx3,h⟩:=bindE h
    have hx3_r:=(Q8v hx3).2
    try simp only [U5,U3,U4,U7,Nat.zero_add,Nat.add_zero,Nat.reduceAdd,Z3y,Z3p] at hx3_r
    obtain hhx3:=Z6p hx3
    subst hhx3
    refine TrD.regK Q94 (fun K hK=>?_)
    simp [hx3_r]
    refine hK _ ?_
    obtain rfl:=Option.some.inj h
    refine TrD.ret ?_
    refine Z3m (σ':=⟨(updD (fun _=>.any) 2 (.sl 2 0 (p0).length)),hOfO [some ⟨2,(List.map Z0 p0),0,0x0069⟩],1,8⟩) ?_ ?_
    · exact Y4.canonV 0 [40] _ _ hβ (Q78 (by decide)) (by decide) (Z09 (v_of (d0:=(.sl 2 40 (p0).length)) (by simp [hx3_r]) (v_sl rfl)) (Z6t _)) (.cons (lv (L:=⟨2,(List.map Z0 p0),0,0x0069⟩) (by simp [hx3_r]) rfl rfl (by simp [hx3_r]) (Q6u (by simp [hx3_r]) (Q8 Q8f _))) .nil)
    · dsimp only [resD]
      exact ⟨[some ⟨2,(List.map Z0 p0),0,0x0069⟩],[],rfl,by simp,by simp,.inl rfl,by simp [Q98]⟩
  · replace h:some ([])=some res:=by simp only [hnil] at h;simpa [app] using h
    refine hK _ ?_
    refine TrD.cond (b:=true) (by simp) (fun hb=>?_) (fun hb=>by cases hb)
    refine TrD.seq ?_
    refine TrD.regK Q94 (fun K hK=>?_)
    simp
    refine hK _ ?_
    obtain rfl:=Option.some.inj h
    refine TrD.ret ?_
    refine Z3m (σ':=⟨(updD (fun _=>.any) 2 (.sl 2 0 0)),hOfO [some ⟨2,(List.map Z0 []),0,0x0069⟩],1,8⟩) ?_ ?_
    · refine (Y4.ownNil (s:=2) (by simp) 2 0x0069).trans ?_
      exact Y4.canonV 0 [32] _ _ hβ (Q78 (by decide)) (by decide) (Z09 (v_of (d0:=(.sl 2 32 0)) (by simp) (v_sl rfl)) (Z6t _)) (.cons (lv (L:=⟨2,(List.map Z0 []),0,0x0069⟩) (by simp) rfl rfl (by simp) (Q6u (by simp) (Q8 Q8f _))) .nil)
    · dsimp only [resD]
      exact ⟨[some ⟨2,(List.map Z0 []),0,0x0069⟩],[],rfl,by simp,by simp,.inl rfl,by simp [Q98]⟩
instance X3y:∀ (p0:(List Q2)),Ct (Q0f p0) fun res=>Y8 Tryz.prog 0o00176 [] [(.slice 2 (List.map Z0 p0))] (fun H d=>H=[some ⟨2,List.map Z0 res,0,0x0069⟩]∧d=.sl 2 0 res.length):=fun p0=>⟨Z1m p0⟩
instance W3f:Ct (Q2y) fun res=>Z1 Tryz.prog 0o00177 [] (fun d=>d=(.agg (Q9 res))):=
 au Tryz.func127 Q2y.eq_1 .z
instance X3z:∀ (p0:Grow) (q0:Grow),Ct (Q01 p0 q0) fun res=>Z1 Tryz.prog 0o00262 [(.agg (Q4x p0)),.cptr (Q4x q0)] (fun d=>d=(eB res)):=
 au Tryz.func178 Q01.eq_1 .z
instance X1e:∀ (p0:(List Z3)) (p1:(Z3→Option Bool)) {p1_f:FuncId} {p1_c:List D} [p1_i:CF1 (fun a0=>(.agg (Q04 a0))) (fun r=>(eB r)) p1 p1_f p1_c],Ct (Q13 p0 p1) fun res=>Z1 Tryz.prog 0o00123 [(.slice 9 (List.map Q04 p0)),.clos p1_f p1_c] (fun d=>d=(eI res)):=
 au Tryz.func83 Q13.eq_1 (.o (.o (.o (.o (.o (.ls 0 (.f [] [] [0,1,7,8] [] (fun (k54:Nat) (s50:Unit)=>[(8,eI (k54:Int))]) (fun k54 s50=>[]) (fun k54 s50=>.z) (fun s58=>.z))))))))
end Go.Proofs.YtgjpamkllimhdaaGreat
