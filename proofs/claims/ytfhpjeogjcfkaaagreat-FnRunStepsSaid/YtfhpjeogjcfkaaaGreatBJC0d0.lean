import Derived.Test.YtfhpjeogjcfkaaaGreatBJMir
import Derived.Test.YtfhpjeogjcfkaaaGreatBJAuto
set_option linter.unusedSimpArgs false
set_option linter.unusedVariables false
namespace Go.Proofs.YtfhpjeogjcfkaaaGreat
open Go Go.RowKit
set_option maxRecDepth 100000
set_option maxHeartbeats 20000000
instance V2q:∀ (p0:(List Int)),Ct (Q1t p0) fun res=>Y4 Tryz.prog 0o00116 [] [(.slice 1 (List.map (rK .u8) p0))] (fun H d=>H=[some ⟨2,[(J1 res)],0,0x00d7⟩]∧d=.ptr 2 0 0 0):=
 au Tryz.func78 Q1t.eq_1 (.o (.j 1 0 [0] [] (fun (s3:(List Int))=>[(0,.slice 1 (List.map (rK .u8) s3))]) (fun _=>[]) .z (fun _=>.z)))
instance W57:∀ (p0:X1) (p1:Int),Ct (Z8 p0 p1) fun res=>Y4 Tryz.prog 0o00165 [⟨2,[(J1 p0)],0,0x00d7⟩] [.ptr 2 0 0 0,(eI p1)] (fun H d=>H=[some ⟨2,[(J1 res.2)],0,0x00d7⟩]∧d=(eI res.1)):=
 au Tryz.func117 Z8.eq_1 (.o (.o (.i .z (.i .z (.i .z (.g [0,1,5] [0] [] [] (.o (.o (.o (.d [0,1,2,3,4,5,6,7,8,9,10,11,12,13,14,15,16,17,18,19,20,21,22,23,24,25,26,27,28,29,30,31,32,33,34,35,36,37,38,39,40,41,42,43,44,45] [0] [] .z))))))))))
instance V59:∀ (p0:Q9t) (p1:Int),Ct (Z2h p0 p1) fun res=>Q8 Tryz.prog 0o00410 [(.agg (Q8d p0)),(eI p1)] (fun d=>d=(eB res)):=
 au Tryz.func264 Z2h.eq_1 .z
instance V2f:∀ (n:Nat) (p0:Q0) (p1:Int),Ct (Q4l n p0 p1) fun res=>Q8 Tryz.prog 0o00446 [(.agg (Z2 p0)),(eI p1)] (fun d=>d=(eI res)):=
 ar (au Tryz.func294 Q4l.eq_2 (.o (.o (.b fun (p0:Q0)=>.o (.lc 0 5 6 Z2 p0.kids (.f [5] [] [1,2,5,6] [0] (fun (k80:Nat) (s76:Int)=>[(5,eI s76),(6,eI (k80:Int))]) (fun k80 s76=>[]) (fun k80 s76=>.z) (fun s84=>.z)))))))
instance V5a:∀ (p0:(List ByteArray)) (p1:ByteArray),Ct (Z2i p0 p1) fun res=>Q8 Tryz.prog 0o00552 [(.slice 1 (List.map rS p0)),(eS p1)] (fun d=>d=(eI res)):=
 au Tryz.func362 Z2i.eq_1 (.o (.o (.i .z (.ls 0 (.f [] [] [0,1,5] [] (fun (k46:Nat) (s42:Unit)=>[(5,eI (k46:Int))]) (fun k46 s42=>[]) (fun k46 s42=>.z) (fun s50=>.z))))))
instance V5f:∀ (n:Nat) (p0:ByteArray) (p1:Int),Ct (Q48 n p0 p1) fun res=>Q8 Tryz.prog 0o00527 [(eS p0),(.val (.int .u8 p1))] (fun d=>d=(.slice 1 (List.map rS res))):=
 au Tryz.func343 Q48.eq_1 (.o (.o (.o (.w [5] [8] [0,1,5,6,7] [8] (fun (s203:(List ByteArray)×Int×Int)=>[(5,.sl 1 8 (s203.1).length),(6,eI s203.2.1),(7,eI s203.2.2)]) (fun s203=>[(8,some ⟨1,(List.map rS s203.1),0,0x0009⟩)]) (fun s203=>.i (.j 6 0 [0,1,5,6,7] [0] (fun (s230:(List ByteArray)×Int)=>[(5,.sl 1 0 (s230.1).length),(6,eI s230.2)]) (fun s230=>[(0,some ⟨1,(List.map rS s230.1),0,0x0009⟩)]) .z (fun _=>.z)) .z) (fun s211=>.z)))))
instance V7m:∀ (p0:Int) (p1:Q7),Ct (Z1c p0 p1) fun res=>Q8 Tryz.prog 0o00444 [(eI p0),(.agg (W3 p1))] (fun d=>d=(eB res)):=
 au Tryz.func292 Z1c.eq_1 .z
instance W5b:∀ (p0:Int),Ct (Q9a p0) fun res=>Q8 Tryz.prog 0o00405 [(.val (.int .u64 p0))] (fun d=>d=(eI res)):=
 au Tryz.func261 Q9a.eq_1 (.o (.j 1 0 [0,2] [] (fun (s2:Int×Int)=>[(0,.val (.int .u64 s2.1)),(2,eI s2.2)]) (fun _=>[]) .z (fun s2=>.j 4 0 [0,2] [] (fun (s7:Int×Int)=>[(0,.val (.int .u64 s7.1)),(2,eI s7.2)]) (fun _=>[]) .z (fun s7=>.j 7 0 [0,2] [] (fun (s12:Int×Int)=>[(0,.val (.int .u64 s12.1)),(2,eI s12.2)]) (fun _=>[]) .z (fun _=>.z)))))
instance W38:∀ (p0:(List Int)) (p1:Int),Ct (Q65 p0 p1) fun res=>Q8 Tryz.prog 0o00406 [(.slice 1 (List.map rI p0)),(eI p1)] (fun d=>d=(eI res)):=
 au Tryz.func262 Q65.eq_1 (.o (.o (.ls 0 (.f [] [] [0,1,7,8] [] (fun (k44:Nat) (s40:Unit)=>[(8,eI (k44:Int))]) (fun k44 s40=>[]) (fun k44 s40=>.z) (fun s48=>.z)))))
theorem Z38 (p0:(List Q0))(res:(List Q0))(h:Q0d p0=some res):Y4 Tryz.prog 0o00177 [] [(.slice 6 (List.map Z2 p0))] (fun H d=>H=[some ⟨6,List.map Z2 res,0,0x0064⟩]∧d=.sl 6 0 res.length):=by
 unfold Q0d at h
 refine CH Tryz.func127 [.tmp 2] 0 fun β hβ=>?_
 refine sZ ?_
 apply sq
 refine sk fun K hK=>?_
 simp
 refine ⟨?_,fun hnil=>?_⟩
 ·apply hK
  refine cF ?_
  apply TrD.skip
  apply sq
  obtain ⟨x3,hx3,h⟩:=bindE h
  have hx3_r:=(Z1f hx3).2
  try simp only [U4,Nat.zero_add] at hx3_r
  obtain hhx3:=X2c hx3
  subst hhx3
  refine rZ ?_ fun K hK=>by simp [hx3_r];exact hK
  cases h
  apply TrD.ret
  refine Z8v (σ':=⟨(updD (fun _=>.any) 2 (.sl 6 0 (p0).length)),hOfO [some ⟨6,(List.map Z2 p0),0,0x0064⟩],1,8⟩) ?_ ?_
  ·exact gC [40]
  dsimp only [resD]
  exact eA
 replace h:some ([])=some res:=by simp only [hnil] at h;simpa [app] using h
 apply hK
 refine cT ?_
 refine sZ ?_
 cases h
 apply TrD.ret
 refine Z8v (σ':=⟨(updD (fun _=>.any) 2 (.sl 6 0 0)),hOfO [some ⟨6,(List.map Z2 []),0,0x0064⟩],1,8⟩) ?_ ?_
 ·refine (Y6.ownNil (s:=2) (by simp) 6 0x0064).trans ?_
  exact gC [32]
 dsimp only [resD]
 exact eA
instance X6p:∀ (p0:(List Q0)),Ct (Q0d p0) fun res=>Y4 Tryz.prog 0o00177 [] [(.slice 6 (List.map Z2 p0))] (fun H d=>H=[some ⟨6,List.map Z2 res,0,0x0064⟩]∧d=.sl 6 0 res.length):=fun p0=>⟨Z38 p0⟩
instance W9u:∀ (p0:(List (List Q0))),Ct (Q4v p0) fun res=>Q8 Tryz.prog 0o00300 [(.slice 1 (List.map (rL 6 Z2) p0))] (fun d=>d=(.slice 1 (List.map (rL 6 Z2) res))):=
 au Tryz.func192 Q4v.eq_1 (.o (.pF 8 (.ls 0 (.f [3] [16] [0,3,4] [16] (fun (k12196:Nat) (s12192:(List (List Q0)))=>[(3,.sl 1 16 (s12192).length),(4,eI (k12196:Int))]) (fun k12196 s12192=>[(16,some ⟨1,(List.map (rL 6 Z2) s12192),0,0x0062⟩)]) (fun k12196 s12192=>.b fun (x12197:(List Q0))=>.ll 0 (.f [0,4,5] [33] [0,3,4,5,6] [0,33] (fun (k13570:Nat) (s13566:(List (List Q0)))=>[(5,.sl 1 33 (s13566).length),(6,eI (k13570:Int))]) (fun k13570 s13566=>[(33,some ⟨1,(List.map (rL 6 Z2) s13566),0,0x0062⟩)]) (fun k13570 s13566=>.o (.i (.le 0 0 6 Z2 x12197 x12197 (.f [0,3,4,5,6] [0,1] [0,3,4,5,6,7] [0,1] (fun (k13668:Nat) (s13664:(List (List Q0)))=>[(5,.sl 1 1 (s13664).length),(7,eI (k13668:Int))]) (fun k13668 s13664=>[(1,some ⟨1,(List.map (rL 6 Z2) s13664),0,0x0062⟩)]) (fun k13668 s13664=>.o (.i (.g [0,3,4,5,6,7] [0,1] [] [] (.o (.o (.o (.dz [0,2,3,4,5,7,8,9,10,11,12,13,1,6,14,15,16,17,18] [0] [1048632] [] (.pF 2097168 .z)))))) .z)) (fun s13672=>.z))) .z)) (fun s13574=>.z))) (fun s12200=>.z)))))
instance W5e:Ct (Q3g) fun res=>Q8 Tryz.prog 0o00176 [] (fun d=>d=(.agg (Z2 res))):=
 au Tryz.func126 Q3g.eq_1 .z
instance V27:∀ (p0:(List Y3)) (p1:Int),Ct (Q4j p0 p1) fun res=>Q8 Tryz.prog 0o00507 [(.slice 3 (List.map Q2n p0)),(eI p1)] (fun d=>d=(eI res)):=
 au Tryz.func327 Q4j.eq_1 (.o (.o (.ls 0 (.f [5] [] [0,1,5,6] [] (fun (k71:Nat) (s67:Int)=>[(5,eI s67),(6,eI (k71:Int))]) (fun k71 s67=>[]) (fun k71 s67=>.o (.j 5 0 [0,1,5,6] [] (fun (s78:Int)=>[(5,eI s78)]) (fun _=>[]) .z (fun _=>.z))) (fun s75=>.z)))))
end Go.Proofs.YtfhpjeogjcfkaaaGreat
