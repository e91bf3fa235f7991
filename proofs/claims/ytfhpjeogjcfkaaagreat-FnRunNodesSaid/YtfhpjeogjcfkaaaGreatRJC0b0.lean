import Derived.Test.YtfhpjeogjcfkaaaGreatRJMir
import Derived.Test.YtfhpjeogjcfkaaaGreatRJAuto
set_option linter.unusedSimpArgs false
set_option linter.unusedVariables false
namespace Go.Proofs.YtfhpjeogjcfkaaaGreat
open Go Go.RowKit
set_option maxRecDepth 100000
set_option maxHeartbeats 20000000
instance W66:∀ (p0:Int),Ct (Q5w p0) fun res=>Z2 Tryz.prog 0o00523 [(eI p0)] (fun d=>d=(eI res)):=
 au Tryz.func339 Q5w.eq_1 .z
instance W6g:∀ (p0:Q6w) (p1:Int),Ct (Q91 p0 p1) fun res=>Z2 Tryz.prog 0o00410 [(.agg (Q5r p0)),(eI p1)] (fun d=>d=(eB res)):=
 au Tryz.func264 Q91.eq_1 .z
instance W6m:∀ (n:Nat) (p0:ByteArray) (p1:Int),Ct (Q2k n p0 p1) fun res=>Z2 Tryz.prog 0o00527 [(eS p0),(.val (.int .u8 p1))] (fun d=>d=(.slice 1 (List.map rS res))):=
 au Tryz.func343 Q2k.eq_1 (.o (.o (.o (.w [5] [8] [0,1,5,6,7] [8] (fun (s203:(List ByteArray)×Int×Int)=>[(5,.sl 1 8 (s203.1).length),(6,eI s203.2.1),(7,eI s203.2.2)]) (fun s203=>[(8,some ⟨1,(List.map rS s203.1),0,0x0009⟩)]) (fun s203=>.i (.j 6 0 [0,1,5,6,7] [0] (fun (s230:(List ByteArray)×Int)=>[(5,.sl 1 0 (s230.1).length),(6,eI s230.2)]) (fun s230=>[(0,some ⟨1,(List.map rS s230.1),0,0x0009⟩)]) .z (fun _=>.z)) .z) (fun s211=>.z)))))
instance W8h:∀ (p0:Int),Ct (Q83 p0) fun res=>Z2 Tryz.prog 0o00517 [(.val (.int .u8 p0))] (fun d=>d=(eB res)):=
 au Tryz.func335 Q83.eq_1 .z
instance W41:∀ (n:Nat) (p0:(List Q3)) (p1:Int) (p2:Int),Ct (Q8c n p0 p1 p2) fun res=>Z2 Tryz.prog 0o00443 [(.slice 2 (List.map W8 p0)),(eI p1),(eI p2)] (fun d=>d=(eB res)):=
 au Tryz.func291 Q8c.eq_1 (.o (.o (.o (.o (.w [] [] [0,1,2,7] [] (fun (s3024:Int)=>[(7,eI s3024)]) (fun s3024=>[]) (fun s3024=>.i (.j 4 1 [0,1,2,7] [] (fun (s3346:Unit)=>[]) (fun _=>[]) (.g [0,1,2,7] [] [] [] (.i (.o (.o (.d [0,1,2,3,4,5,6,7,8,9,10,11,12,13,14,15] [] [] .z))) (.d [0,1,2,3,4,5,6,7,8,9,10,11,12,13,14,15] [] [] .z))) (fun s3346=>.b fun (x3485:Q3)=>.le 0 1 3 Q5r x3485.ctors x3485 (.f [0,1,2,7] [] [0,1,2,7,8] [] (fun (k3592:Nat) (s3588:Unit)=>[(8,eI (k3592:Int))]) (fun k3592 s3588=>[]) (fun k3592 s3588=>.o (.j 7 0 [0,1,2,7,8] [] (fun (s3602:Unit)=>[]) (fun _=>[]) .z (fun s3602=>.j 9 0 [0,1,2,7,8] [] (fun (s3621:Unit)=>[]) (fun _=>[]) (.g [0,1,2,7,8] [] [] [] (.o (.i (.o (.d [0,1,2,3,4,5,6,7,8,9,10,11,12,13,14,15,16,17,18,19,20,21,22,23,24,25,26,27,28] [] [] .z)) (.d [0,1,2,3,4,5,6,7,8,9,10,11,12,13,14,15,16,17,18,19,20,21,22,23,24,25,26,27,28] [] [] .z)))) (fun _=>.z)))) (fun s3596=>.z)))) .z) (fun s3032=>.z))))))
instance Z7b:∀ (p0:(List Q9)) (p1:(Q9→Option Bool)) {p1_f:FuncId} {p1_c:List D} [p1_i:CF1 (fun a0=>(.agg (V4 a0))) (fun r=>(eB r)) p1 p1_f p1_c],Ct (Q2b p0 p1) fun res=>Z2 Tryz.prog 0o00547 [(.slice 3 (List.map V4 p0)),.clos p1_f p1_c] (fun d=>d=(eI res)):=
 au Tryz.func359 Q2b.eq_1 (.o (.o (.o (.o (.o (.ls 0 (.f [] [] [0,1,7,8] [] (fun (k54:Nat) (s50:Unit)=>[(8,eI (k54:Int))]) (fun k54 s50=>[]) (fun k54 s50=>.z) (fun s58=>.z))))))))
set_option maxRecDepth 100000 in
theorem Z34 (p0:(List Int))(res:(List Int))(h:J6 p0=some res):J4 Tryz.prog 0o00175 [] [(.slice 1 (List.map rI p0))] (fun H d=>H=[some ⟨1,List.map rI res,0,0x0003⟩]∧d=.sl 1 0 res.length):=by
  unfold J6 at h
  refine J4.of (res:=[.tmp 2]) Q7c Tryz.func125 (by decide) rfl (Nat.le_of_ble_eq_true rfl) rfl rfl (fun β hβ=>?_)
  refine TrD.seq ?_
  refine TrD.regK Q7c (fun K hK=>?_)
  simp
  refine hK _ ?_
  refine TrD.seq ?_
  refine TrD.seq ?_
  refine TrD.regK Q7c (fun K hK=>?_)
  simp
  refine ⟨?_,fun hnil=>?_⟩
  · refine hK _ ?_
    refine TrD.cond (b:=false) (by simp) (fun hb=>by cases hb) (fun hb=>?_)
    refine TrD.skip ?_
    refine TrD.seq ?_
    obtain ⟨x3,hx3,h⟩:=bindE h
    have hx3_r:=(Q87 hx3).2
    try simp only [U5,U3,U4,U7,Nat.zero_add,Nat.add_zero,Nat.reduceAdd,Z1g,Z18] at hx3_r
    obtain hhx3:=Z77 hx3
    subst hhx3
    refine TrD.regK Q7c (fun K hK=>?_)
    simp [hx3_r]
    refine hK _ ?_
    obtain rfl:=Option.some.inj h
    refine TrD.ret ?_
    refine Z4i (σ':=⟨(updD (fun _=>.any) 2 (.sl 1 0 (p0).length)),hOfO [some ⟨1,(List.map rI p0),0,0x0003⟩],1,8⟩) ?_ ?_
    · exact V3.canonV 0 [40] _ _ hβ (Q5m (by decide)) (by decide) (Q8h (v_of (d0:=(.sl 1 40 (p0).length)) (by simp [hx3_r]) (v_sl rfl)) (Z41 _)) (.cons (lv (L:=⟨1,(List.map rI p0),0,0x0003⟩) (by simp [hx3_r]) rfl rfl (by simp [hx3_r]) (Q5b (by simp [hx3_r]) (Q4 (fun _=>by simp) _))) .nil)
    · dsimp only [resD]
      exact ⟨[some ⟨1,(List.map rI p0),0,0x0003⟩],[],rfl,by simp,by simp,.inl rfl,by simp [Q7f]⟩
  · replace h:some ([])=some res:=by simp only [hnil] at h;simpa [app] using h
    refine hK _ ?_
    refine TrD.cond (b:=true) (by simp) (fun hb=>?_) (fun hb=>by cases hb)
    refine TrD.seq ?_
    refine TrD.regK Q7c (fun K hK=>?_)
    simp
    refine hK _ ?_
    obtain rfl:=Option.some.inj h
    refine TrD.ret ?_
    refine Z4i (σ':=⟨(updD (fun _=>.any) 2 (.sl 1 0 0)),hOfO [some ⟨1,(List.map rI []),0,0x0003⟩],1,8⟩) ?_ ?_
    · refine (V3.ownNil (s:=2) (by simp) 1 0x0003).trans ?_
      exact V3.canonV 0 [32] _ _ hβ (Q5m (by decide)) (by decide) (Q8h (v_of (d0:=(.sl 1 32 0)) (by simp) (v_sl rfl)) (Z41 _)) (.cons (lv (L:=⟨1,(List.map rI []),0,0x0003⟩) (by simp) rfl rfl (by simp) (Q5b (by simp) (Q4 (fun _=>by simp) _))) .nil)
    · dsimp only [resD]
      exact ⟨[some ⟨1,(List.map rI []),0,0x0003⟩],[],rfl,by simp,by simp,.inl rfl,by simp [Q7f]⟩
instance X67:∀ (p0:(List Int)),Ct (J6 p0) fun res=>J4 Tryz.prog 0o00175 [] [(.slice 1 (List.map rI p0))] (fun H d=>H=[some ⟨1,List.map rI res,0,0x0003⟩]∧d=.sl 1 0 res.length):=fun p0=>⟨Z34 p0⟩
instance X81:∀ (p0:Int),Ct (Q6f p0) fun res=>Z2 Tryz.prog 0o00405 [(.val (.int .u64 p0))] (fun d=>d=(eI res)):=
 au Tryz.func261 Q6f.eq_1 (.o (.j 1 0 [0,2] [] (fun (s2:Int×Int)=>[(0,.val (.int .u64 s2.1)),(2,eI s2.2)]) (fun _=>[]) .z (fun s2=>.j 4 0 [0,2] [] (fun (s7:Int×Int)=>[(0,.val (.int .u64 s7.1)),(2,eI s7.2)]) (fun _=>[]) .z (fun s7=>.j 7 0 [0,2] [] (fun (s12:Int×Int)=>[(0,.val (.int .u64 s12.1)),(2,eI s12.2)]) (fun _=>[]) .z (fun _=>.z)))))
instance W20:∀ (n:Nat) (p0:Q2),Ct (Q23 n p0) fun res=>Z2 Tryz.prog 0o00134 [(.agg (W4 p0))] (fun d=>d=(.agg (W4 res))):=
 ar (au Tryz.func92 Q23.eq_2 (.o (.o (.b fun (p0:Q2)=>.pC 56 2 3 0x001d (.ls 12 (.f [2,3] [8,56,104] [2,3,12,13,14] [8,56,104] (fun (k56:Nat) (s52:(List Q2))=>[(14,eI (k56:Int))]) (fun k56 s52=>[(1000000056,some ⟨3,[[(eI p0.ctor),(eI p0.n),(.sl 3 104 (s52).length)]],0,0x001d⟩),(104,some ⟨3,(List.map W4 s52),0,0x001d⟩)]) (fun k56 s52=>.o (.g [2,3,5,12,13,14] [0,1,2,27] [] [(1000000001,some ⟨3,[[(eI p0.ctor),(eI p0.n),(.sl 3 2 (s52).length)]],0,0x001d⟩)] (.o (.o (.d [0,1,2,3,4,5,6,7] [1,3] [24] .z))))) (fun s60=>.z)))))))
instance X4b:∀ (p0:V5) (q0:Q2q),Ct (Q24 p0 q0) fun res=>Z2 Tryz.prog 0o00277 [(.agg (Q48 p0)),.cptr (Q6y q0)] (fun d=>d=(eB res)):=
 au Tryz.func191 Q24.eq_1 .z
instance W3z:∀ (n:Nat) (p0:Q2) (p1:Int),Ct (Q2y n p0 p1) fun res=>Z2 Tryz.prog 0o00154 [(.agg (W4 p0)),(eI p1)] (fun d=>d=(eI res)):=
 ar (au Tryz.func108 Q2y.eq_2 (.o (.o (.b fun (p0:Q2)=>.o (.lc 0 2 3 W4 p0.kids (.f [5] [] [1,2,5,6] [0] (fun (k80:Nat) (s76:Int)=>[(5,eI s76),(6,eI (k80:Int))]) (fun k80 s76=>[]) (fun k80 s76=>.z) (fun s84=>.z)))))))
instance V02:∀ (p0:Q2) (p1:(List Int)),Ct (Q5e p0 p1) fun res=>Z2 Tryz.prog 0o00160 [(.agg (W4 p0)),(.slice 1 (List.map rI p1))] (fun d=>d=(.agg (W4 res))):=
 au Tryz.func112 Q5e.eq_1 (.o (.o (.ls 1 (.f [2,4] [0,8] [1,2,4,5] [0,8] (fun (k46:Nat) (s42:Q2)=>[(5,eI (k46:Int))]) (fun k46 s42=>[(0,some ⟨3,[(W4 s42)],0,0x001d⟩)]) (fun k46 s42=>.o (.g [1,2,4,5] [0,1] [] [] (.o (.d [0,1,2,3,4,5,6,7,8] [0] [2] .z)))) (fun s50=>.z)))))
instance W1r:∀ (p0:(List (List Q0))),Ct (Q38 p0) fun res=>Z2 Tryz.prog 0o00300 [(.slice 1 (List.map (rL 6 Z0) p0))] (fun d=>d=(.slice 1 (List.map (rL 6 Z0) res))):=
 au Tryz.func192 Q38.eq_1 (.o (.pF 8 (.ls 0 (.f [3] [16] [0,3,4] [16] (fun (k12196:Nat) (s12192:(List (List Q0)))=>[(3,.sl 1 16 (s12192).length),(4,eI (k12196:Int))]) (fun k12196 s12192=>[(16,some ⟨1,(List.map (rL 6 Z0) s12192),0,0x0062⟩)]) (fun k12196 s12192=>.b fun (x12197:(List Q0))=>.ll 0 (.f [0,4,5] [33] [0,3,4,5,6] [0,33] (fun (k13570:Nat) (s13566:(List (List Q0)))=>[(5,.sl 1 33 (s13566).length),(6,eI (k13570:Int))]) (fun k13570 s13566=>[(33,some ⟨1,(List.map (rL 6 Z0) s13566),0,0x0062⟩)]) (fun k13570 s13566=>.o (.i (.le 0 0 6 Z0 x12197 x12197 (.f [0,3,4,5,6] [0,1] [0,3,4,5,6,7] [0,1] (fun (k13668:Nat) (s13664:(List (List Q0)))=>[(5,.sl 1 1 (s13664).length),(7,eI (k13668:Int))]) (fun k13668 s13664=>[(1,some ⟨1,(List.map (rL 6 Z0) s13664),0,0x0062⟩)]) (fun k13668 s13664=>.o (.i (.g [0,3,4,5,6,7] [0,1] [] [] (.o (.o (.o (.dz [0,2,3,4,5,7,8,9,10,11,12,13,1,6,14,15,16,17,18] [0] [1048632] [] (.pF 2097168 .z)))))) .z)) (fun s13672=>.z))) .z)) (fun s13574=>.z))) (fun s12200=>.z)))))
instance W3p:∀ (n:Nat) (p0:(List Q1)),Ct (Q2v n p0) fun res=>Z2 Tryz.prog 0o00302 [(.slice 2 (List.map Q7 p0))] (fun d=>d=(.slice 2 (List.map Q7 res))):=
 au Tryz.func194 Q2v.eq_1 (.o (.o (.w [3] [8] [0,3,4] [8] (fun (s496:(List Q1)×Int)=>[(3,.sl 2 8 (s496.1).length),(4,eI s496.2)]) (fun s496=>[(8,some ⟨2,(List.map Q7 s496.1),0,0x0095⟩)]) (fun s496=>.i (.ls 0 (.f [0,3,4] [0] [0,3,4,5] [0] (fun (k587:Nat) (s583:(List Q1))=>[(3,.sl 2 0 (s583).length),(5,eI (k587:Int))]) (fun k587 s583=>[(0,some ⟨2,(List.map Q7 s583),0,0x0095⟩)]) (fun k587 s583=>.o (.j 8 0 [0,3,4,5] [0] (fun (s595:(List Q1))=>[(3,.sl 2 0 (s595).length)]) (fun s595=>[(0,some ⟨2,(List.map Q7 s595),0,0x0095⟩)]) (.i (.o (.o (.pF 153 .z))) .z) (fun _=>.z))) (fun s591=>.z))) .z) (fun s504=>.z))))
instance W3m:∀ (p0:(List V2)) (p1:Int),Ct (Q2s p0 p1) fun res=>Z2 Tryz.prog 0o00416 [(.slice 3 (List.map Q1e p0)),(eI p1)] (fun d=>d=(.slice 3 (List.map Q1e res))):=
 au Tryz.func270 Q2s.eq_1 (.o (.o (.ls 0 (.f [5] [8] [0,1,5,6] [8] (fun (k71:Nat) (s67:(List V2))=>[(5,.sl 3 8 (s67).length),(6,eI (k71:Int))]) (fun k71 s67=>[(8,some ⟨3,(List.map Q1e s67),0,0x0142⟩)]) (fun k71 s67=>.o (.j 5 0 [0,1,5,6] [0] (fun (s78:(List V2))=>[(5,.sl 3 0 (s78).length)]) (fun s78=>[(0,some ⟨3,(List.map Q1e s78),0,0x0142⟩)]) .z (fun _=>.z))) (fun s75=>.z)))))
end Go.Proofs.YtfhpjeogjcfkaaaGreat
