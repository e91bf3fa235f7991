import Derived.Test.YtbdkbdafhlcilaaGreatJMir
import Derived.Test.YtbdkbdafhlcilaaGreatJAuto
set_option linter.unusedSimpArgs false
set_option linter.unusedVariables false
namespace Go.Proofs.YtbdkbdafhlcilaaGreat
open Go Go.RowKit
set_option maxRecDepth 100000
set_option maxHeartbeats 20000000
instance W40:∀ (n:Nat) (p0:Q0),Ct (Q16 n p0) fun res=>Z1 Tryz.prog 0o00260 [(.agg (Q1 p0))] (fun d=>d=(.agg (Q1 res))):=
 ar (au Tryz.func176 Q16.eq_2 (.o (.o (.b fun (p0:Q0)=>.pC 0 5 6 0x0064 (.ls 7 (.f [1,2] [0,80,8] [1,2,9,10,11] [0,80,8] (fun (k56:Nat) (s52:(List Q0))=>[(11,eI (k56:Int))]) (fun k56 s52=>[(1000000000,some ⟨6,[[(eI p0.op),(eI p0.ctor),(eI p0.n),(eI p0.m),(eI p0.var),(.sl 6 80 (s52).length)]],0,0x0064⟩),(80,some ⟨6,(List.map Q1 s52),0,0x0064⟩)]) (fun k56 s52=>.o (.g [1,2,5,9,10,11] [0,1,2,27] [] [(1000000000,some ⟨6,[[(eI p0.op),(eI p0.ctor),(eI p0.n),(eI p0.m),(eI p0.var),(.sl 6 1 (s52).length)]],0,0x0064⟩)] (.o (.o (.d [0,1,2,3,4,5,6,7] [0,3] [21] .z))))) (fun s60=>.z)))))))
theorem Z21 (p0:(List Q0))(res:(List Q0))(h:V8 p0=some res):Q05 Tryz.prog 0o00200 [] [(.slice 6 (List.map Q1 p0))] (fun H d=>H=[some ⟨6,List.map Q1 res,0,0x0064⟩]∧d=.sl 6 0 res.length):=by
 unfold V8 at h
 refine CH Tryz.func128 [.tmp 2] 0 fun β hβ=>?_
 refine sZ ?_
 apply sq
 refine sk fun K hK=>?_
 simp
 refine ⟨?_,fun hnil=>?_⟩
 ·apply hK
  refine cF ?_
  apply TrD.skip
  apply sq
  obtain ⟨x3,hx3,h⟩:=bindE h
  have hx3_r:=(Z00 hx3).2
  try simp only [U4,Nat.zero_add] at hx3_r
  obtain hhx3:=X15 hx3
  subst hhx3
  refine rZ ?_ fun K hK=>by simp [hx3_r];exact hK
  cases h
  apply TrD.ret
  refine Z7y (σ':=⟨(updD (fun _=>.any) 2 (.sl 6 0 (p0).length)),hOfO [some ⟨6,(List.map Q1 p0),0,0x0064⟩],1,8⟩) ?_ ?_
  ·exact gC [40]
  dsimp only [resD]
  exact eA
 replace h:some ([])=some res:=by simp only [hnil] at h;simpa [app] using h
 apply hK
 refine cT ?_
 refine sZ ?_
 cases h
 apply TrD.ret
 refine Z7y (σ':=⟨(updD (fun _=>.any) 2 (.sl 6 0 0)),hOfO [some ⟨6,(List.map Q1 []),0,0x0064⟩],1,8⟩) ?_ ?_
 ·refine (J8.ownNil (s:=2) (by simp) 6 0x0064).trans ?_
  exact gC [32]
 dsimp only [resD]
 exact eA
instance X54:∀ (p0:(List Q0)),Ct (V8 p0) fun res=>Q05 Tryz.prog 0o00200 [] [(.slice 6 (List.map Q1 p0))] (fun H d=>H=[some ⟨6,List.map Q1 res,0,0x0064⟩]∧d=.sl 6 0 res.length):=fun p0=>⟨Z21 p0⟩
instance W7u:∀ (p0:(List (List Q0))),Ct (Q4m p0) fun res=>Z1 Tryz.prog 0o00322 [(.slice 1 (List.map (rL 6 Q1) p0))] (fun d=>d=(.slice 1 (List.map (rL 6 Q1) res))):=
 au Tryz.func210 Q4m.eq_1 (.o (.pF 8 (.ls 0 (.f [3] [16] [0,3,4] [16] (fun (k12196:Nat) (s12192:(List (List Q0)))=>[(3,.sl 1 16 (s12192).length),(4,eI (k12196:Int))]) (fun k12196 s12192=>[(16,some ⟨1,(List.map (rL 6 Q1) s12192),0,0x005b⟩)]) (fun k12196 s12192=>.b fun (x12197:(List Q0))=>.ll 0 (.f [0,4,5] [33] [0,3,4,5,6] [0,33] (fun (k13570:Nat) (s13566:(List (List Q0)))=>[(5,.sl 1 33 (s13566).length),(6,eI (k13570:Int))]) (fun k13570 s13566=>[(33,some ⟨1,(List.map (rL 6 Q1) s13566),0,0x005b⟩)]) (fun k13570 s13566=>.o (.i (.le 0 0 6 Q1 x12197 x12197 (.f [0,3,4,5,6] [0,1] [0,3,4,5,6,7] [0,1] (fun (k13668:Nat) (s13664:(List (List Q0)))=>[(5,.sl 1 1 (s13664).length),(7,eI (k13668:Int))]) (fun k13668 s13664=>[(1,some ⟨1,(List.map (rL 6 Q1) s13664),0,0x005b⟩)]) (fun k13668 s13664=>.o (.i (.g [0,3,4,5,6,7] [0,1] [] [] (.o (.o (.o (.dz [0,2,3,4,5,7,8,9,10,11,12,13,1,6,14,15,16,17,18] [0] [1048632] [] (.pF 2097168 .z)))))) .z)) (fun s13672=>.z))) .z)) (fun s13574=>.z))) (fun s12200=>.z)))))
instance W7y:∀ (p0:Q8f) (p1:Int),Ct (Q9a p0 p1) fun res=>Z1 Tryz.prog 0o00267 [(.agg (Q7e p0)),(eI p1)] (fun d=>d=(eI res)):=
 au Tryz.func183 Q9a.eq_1 .z
instance V2b:∀ (p0:Int),Ct (Q7h p0) fun res=>Z1 Tryz.prog 0o00433 [(eI p0)] (fun d=>d=(eI res)):=
 au Tryz.func283 Q7h.eq_1 .z
instance V03:∀ (n:Nat) (p0:Q0) (p1:Int),Ct (Q4b n p0 p1) fun res=>Z1 Tryz.prog 0o00335 [(.agg (Q1 p0)),(eI p1)] (fun d=>d=(eI res)):=
 ar (au Tryz.func221 Q4b.eq_2 (.o (.o (.b fun (p0:Q0)=>.o (.lc 0 5 6 Q1 p0.kids (.f [5] [] [1,2,5,6] [0] (fun (k80:Nat) (s76:Int)=>[(5,eI s76),(6,eI (k80:Int))]) (fun k80 s76=>[]) (fun k80 s76=>.z) (fun s84=>.z)))))))
instance V07:∀ (n:Nat) (p0:(List Q3)) (p1:Int) (p2:Int),Ct (Z05 n p0 p1 p2) fun res=>Z1 Tryz.prog 0o00360 [(.slice 2 (List.map V0 p0)),(eI p1),(eI p2)] (fun d=>d=(eB res)):=
 au Tryz.func240 Z05.eq_1 (.o (.o (.o (.o (.w [] [] [0,1,2,7] [] (fun (s3024:Int)=>[(7,eI s3024)]) (fun s3024=>[]) (fun s3024=>.i (.j 4 1 [0,1,2,7] [] (fun (s3346:Unit)=>[]) (fun _=>[]) (.g [0,1,2,7] [] [] [] (.i (.o (.o (.d [0,1,2,3,4,5,6,7,8,9,10,11,12,13,14,15] [] [] .z))) (.d [0,1,2,3,4,5,6,7,8,9,10,11,12,13,14,15] [] [] .z))) (fun s3346=>.b fun (x3485:Q3)=>.le 0 1 3 Q7e x3485.ctors x3485 (.f [0,1,2,7] [] [0,1,2,7,8] [] (fun (k3592:Nat) (s3588:Unit)=>[(8,eI (k3592:Int))]) (fun k3592 s3588=>[]) (fun k3592 s3588=>.o (.j 7 0 [0,1,2,7,8] [] (fun (s3602:Unit)=>[]) (fun _=>[]) .z (fun s3602=>.j 9 0 [0,1,2,7,8] [] (fun (s3621:Unit)=>[]) (fun _=>[]) (.g [0,1,2,7,8] [] [] [] (.o (.i (.o (.d [0,1,2,3,4,5,6,7,8,9,10,11,12,13,14,15,16,17,18,19,20,21,22,23,24,25,26,27,28] [] [] .z)) (.d [0,1,2,3,4,5,6,7,8,9,10,11,12,13,14,15,16,17,18,19,20,21,22,23,24,25,26,27,28] [] [] .z)))) (fun _=>.z)))) (fun s3596=>.z)))) .z) (fun s3032=>.z))))))
instance V2q:∀ (n:Nat) (p0:ByteArray) (p1:Int),Ct (Q41 n p0 p1) fun res=>Z1 Tryz.prog 0o00412 [(eS p0),(.val (.int .u8 p1))] (fun d=>d=(.slice 1 (List.map rS res))):=
 au Tryz.func266 Q41.eq_1 (.o (.o (.o (.w [5] [8] [0,1,5,6,7] [8] (fun (s203:(List ByteArray)×Int×Int)=>[(5,.sl 1 8 (s203.1).length),(6,eI s203.2.1),(7,eI s203.2.2)]) (fun s203=>[(8,some ⟨1,(List.map rS s203.1),0,0x0009⟩)]) (fun s203=>.i (.j 6 0 [0,1,5,6,7] [0] (fun (s230:(List ByteArray)×Int)=>[(5,.sl 1 0 (s230.1).length),(6,eI s230.2)]) (fun s230=>[(0,some ⟨1,(List.map rS s230.1),0,0x0009⟩)]) .z (fun _=>.z)) .z) (fun s211=>.z)))))
instance V2l:∀ (p0:(List ByteArray)) (p1:ByteArray),Ct (Z16 p0 p1) fun res=>Z1 Tryz.prog 0o00470 [(.slice 1 (List.map rS p0)),(eS p1)] (fun d=>d=(eI res)):=
 au Tryz.func312 Z16.eq_1 (.o (.o (.i .z (.ls 0 (.f [] [] [0,1,5] [] (fun (k46:Nat) (s42:Unit)=>[(5,eI (k46:Int))]) (fun k46 s42=>[]) (fun k46 s42=>.z) (fun s50=>.z))))))
instance V08:Ct (Q5e) fun res=>Z1 Tryz.prog 0o00347 [] (fun d=>d=(.slice 1 (List.map rS res))):=
 au Tryz.func231 Q5e.eq_1 .z
instance X88:∀ (p1:Int),Ct (Q2y p1) fun res=>Q05 Tryz.prog 0o00321 [] [.nil,(eI p1)] (fun H d=>H=[some ⟨3,List.map Q1y res,0,0x006f⟩]∧d=.sl 3 0 res.length):=
 au Tryz.func209 Q2y.eq_1 (.o (.i .z (.j 3 0 [0] [9000] (fun (s6:Unit)=>[(0,.sl 3 9000 0)]) (fun _=>[(9000,some ⟨3,(List.map Q1y []),0,0x006f⟩)]) (.i (.o (.o (.pS 144 0 Q1y ([]:List Z5) .z))) (.pN 0 3 0x006f .z)) (fun _=>.z))))
instance X45:∀ (p0:Grow) (q0:Grow),Ct (Q01 p0 q0) fun res=>Z1 Tryz.prog 0o00320 [(.agg (Q4w p0)),.cptr (Q4w q0)] (fun d=>d=(eB res)):=
 au Tryz.func208 Q01.eq_1 .z
instance X1m:∀ (p0:(List Z2)) (p1:(Z2→Option Bool)) {p1_f:FuncId} {p1_c:List D} [p1_i:CF1 (fun a0=>(.agg (Q1s a0))) (fun r=>(eB r)) p1 p1_f p1_c],Ct (Q1j p0 p1) fun res=>Z1 Tryz.prog 0o00217 [(.slice 9 (List.map Q1s p0)),.clos p1_f p1_c] (fun d=>d=(eI res)):=
 au Tryz.func143 Q1j.eq_1 (.o (.o (.o (.o (.o (.ls 0 (.f [] [] [0,1,7,8] [] (fun (k54:Nat) (s50:Unit)=>[(8,eI (k54:Int))]) (fun k54 s50=>[]) (fun k54 s50=>.z) (fun s58=>.z))))))))
instance W82:∀ (n:Nat) (p0:Q4),Ct (Q3h n p0) fun res=>Z1 Tryz.prog 0o00132 [(.agg (Q07 p0))] (fun d=>d=(.agg (Q07 res))):=
 ar (au Tryz.func90 Q3h.eq_2 (.o (.o (.b fun (p0:Q4)=>.pC 56 2 3 0x0038 (.ls 12 (.f [2,3] [8,56,104] [2,3,12,13,14] [8,56,104] (fun (k56:Nat) (s52:(List Q4))=>[(14,eI (k56:Int))]) (fun k56 s52=>[(1000000056,some ⟨3,[[(eI p0.ctor),(eI p0.n),(.sl 3 104 (s52).length)]],0,0x0038⟩),(104,some ⟨3,(List.map Q07 s52),0,0x0038⟩)]) (fun k56 s52=>.o (.g [2,3,5,12,13,14] [0,1,2,27] [] [(1000000001,some ⟨3,[[(eI p0.ctor),(eI p0.n),(.sl 3 2 (s52).length)]],0,0x0038⟩)] (.o (.o (.d [0,1,2,3,4,5,6,7] [1,3] [24] .z))))) (fun s60=>.z)))))))
end Go.Proofs.YtbdkbdafhlcilaaGreat
