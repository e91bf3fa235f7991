import Derived.Test.YtfhpjeogjcfkaaaGreatSJMir
import Derived.Test.YtfhpjeogjcfkaaaGreatSJAuto
set_option linter.unusedSimpArgs false
set_option linter.unusedVariables false
namespace Go.Proofs.YtfhpjeogjcfkaaaGreat
open Go Go.RowKit
set_option maxRecDepth 100000
set_option maxHeartbeats 20000000
instance W6r:∀ (p0:Q0),Ct (Q64 p0) fun res=>Q6 Tryz.prog 0o00431 [(.agg (Q2 p0))] (fun d=>d=.tup [(eI res.1),(eI res.2)]):=
 au Tryz.func281 Q64.eq_1 (.o (.i .z (.g [1] [0] [] [] (.d [0,1,2,3,4,5] [0] [] .z))))
instance X17:∀ (p0:(List Q1)) (p1:(Q1→Option Bool)) {p1_f:FuncId} {p1_c:List D} [p1_i:CF1 (fun a0=>(.agg (Z2 a0))) (fun r=>(eB r)) p1 p1_f p1_c],Ct (Q4n p0 p1) fun res=>Q6 Tryz.prog 0o00367 [(.slice 2 (List.map Z2 p0)),.clos p1_f p1_c] (fun d=>d=(eI res)):=
 au Tryz.func247 Q4n.eq_1 (.o (.o (.o (.o (.o (.ls 0 (.f [] [] [0,1,7,8] [] (fun (k54:Nat) (s50:Unit)=>[(8,eI (k54:Int))]) (fun k54 s50=>[]) (fun k54 s50=>.z) (fun s58=>.z))))))))
instance X18:∀ (p0:(List X3)) (p1:(X3→Option Bool)) {p1_f:FuncId} {p1_c:List D} [p1_i:CF1 (fun a0=>(.agg (Q11 a0))) (fun r=>(eB r)) p1 p1_f p1_c],Ct (Q4o p0 p1) fun res=>Q6 Tryz.prog 0o00276 [(.slice 4 (List.map Q11 p0)),.clos p1_f p1_c] (fun d=>d=(eI res)):=
 au Tryz.func190 Q4o.eq_1 (.o (.o (.o (.o (.o (.ls 0 (.f [] [] [0,1,7,8] [] (fun (k54:Nat) (s50:Unit)=>[(8,eI (k54:Int))]) (fun k54 s50=>[]) (fun k54 s50=>.z) (fun s58=>.z))))))))
instance W0h:∀ (p0:Int),Ct (Q6y p0) fun res=>Q6 Tryz.prog 0o00405 [(.val (.int .u64 p0))] (fun d=>d=(eI res)):=
 au Tryz.func261 Q6y.eq_1 (.o (.j 1 0 [0,2] [] (fun (s2:Int×Int)=>[(0,.val (.int .u64 s2.1)),(2,eI s2.2)]) (fun _=>[]) .z (fun s2=>.j 4 0 [0,2] [] (fun (s7:Int×Int)=>[(0,.val (.int .u64 s7.1)),(2,eI s7.2)]) (fun _=>[]) .z (fun s7=>.j 7 0 [0,2] [] (fun (s12:Int×Int)=>[(0,.val (.int .u64 s12.1)),(2,eI s12.2)]) (fun _=>[]) .z (fun _=>.z)))))
instance W4m:∀ (p0:Q7e) (p1:Int),Ct (Q86 p0 p1) fun res=>Q6 Tryz.prog 0o00411 [(.agg (Q6j p0)),(eI p1)] (fun d=>d=(eI res)):=
 au Tryz.func265 Q86.eq_1 .z
instance W6d:∀ (n:Nat) (p0:Q0) (p1:Int),Ct (Q3r n p0 p1) fun res=>Q6 Tryz.prog 0o00446 [(.agg (Q2 p0)),(eI p1)] (fun d=>d=(eI res)):=
 ar (au Tryz.func294 Q3r.eq_2 (.o (.o (.b fun (p0:Q0)=>.o (.lc 0 5 6 Q2 p0.kids (.f [5] [] [1,2,5,6] [0] (fun (k80:Nat) (s76:Int)=>[(5,eI s76),(6,eI (k80:Int))]) (fun k80 s76=>[]) (fun k80 s76=>.z) (fun s84=>.z)))))))
instance W8f:∀ (p0:(List Q9)) (p1:Int),Ct (Q3d p0 p1) fun res=>Q6 Tryz.prog 0o00450 [(.slice 3 (List.map V0 p0)),(eI p1)] (fun d=>d=(eI res)):=
 au Tryz.func296 Q3d.eq_1 (.o (.o (.ls 0 (.f [] [] [0,1,5] [] (fun (k44:Nat) (s40:Unit)=>[(5,eI (k44:Int))]) (fun k44 s40=>[]) (fun k44 s40=>.z) (fun s48=>.z)))))
instance V0v:∀ (p0:Int),Ct (Q8k p0) fun res=>Q6 Tryz.prog 0o00517 [(.val (.int .u8 p0))] (fun d=>d=(eB res)):=
 au Tryz.func335 Q8k.eq_1 .z
instance W6j:∀ (n:Nat) (p0:(List Q4)) (p1:Int) (p2:Int),Ct (Q8u n p0 p1 p2) fun res=>Q6 Tryz.prog 0o00443 [(.slice 2 (List.map Z8 p0)),(eI p1),(eI p2)] (fun d=>d=(eB res)):=
 au Tryz.func291 Q8u.eq_1 (.o (.o (.o (.o (.w [] [] [0,1,2,7] [] (fun (s3024:Int)=>[(7,eI s3024)]) (fun s3024=>[]) (fun s3024=>.i (.j 4 1 [0,1,2,7] [] (fun (s3346:Unit)=>[]) (fun _=>[]) (.g [0,1,2,7] [] [] [] (.i (.o (.o (.d [0,1,2,3,4,5,6,7,8,9,10,11,12,13,14,15] [] [] .z))) (.d [0,1,2,3,4,5,6,7,8,9,10,11,12,13,14,15] [] [] .z))) (fun s3346=>.b fun (x3485:Q4)=>.le 0 1 3 Q6j x3485.ctors x3485 (.f [0,1,2,7] [] [0,1,2,7,8] [] (fun (k3592:Nat) (s3588:Unit)=>[(8,eI (k3592:Int))]) (fun k3592 s3588=>[]) (fun k3592 s3588=>.o (.j 7 0 [0,1,2,7,8] [] (fun (s3602:Unit)=>[]) (fun _=>[]) .z (fun s3602=>.j 9 0 [0,1,2,7,8] [] (fun (s3621:Unit)=>[]) (fun _=>[]) (.g [0,1,2,7,8] [] [] [] (.o (.i (.o (.d [0,1,2,3,4,5,6,7,8,9,10,11,12,13,14,15,16,17,18,19,20,21,22,23,24,25,26,27,28] [] [] .z)) (.d [0,1,2,3,4,5,6,7,8,9,10,11,12,13,14,15,16,17,18,19,20,21,22,23,24,25,26,27,28] [] [] .z)))) (fun _=>.z)))) (fun s3596=>.z)))) .z) (fun s3032=>.z))))))
instance W0g:∀ (p0:Q34) (p1:(List X3)),Ct (Q2p p0 p1) fun res=>Q6 Tryz.prog 0o00156 [(.agg (Q7f p0)),(.slice 4 (List.map Q11 p1))] (fun d=>d=(eB res)):=
 au Tryz.func110 Q2p.eq_1 (.o (.o (.i .z (.ls 1 (.f [] [] [1,2,5] [0] (fun (k179:Nat) (s175:Unit)=>[(5,eI (k179:Int))]) (fun k179 s175=>[]) (fun k179 s175=>.o (.j 6 0 [1,2,5] [0] (fun (s196:Unit)=>[]) (fun _=>[]) (.g [1,2,5] [0] [] [] (.d [0,1,2,3,4,5,6,7] [0] [] .z)) (fun _=>.z))) (fun s183=>.z))))))
instance W8k:∀ (n:Nat) (p0:Q3),Ct (Q4l n p0) fun res=>Q6 Tryz.prog 0o00307 [(.agg (Z5 p0))] (fun d=>d=(.agg (Z5 res))):=
 ar (au Tryz.func199 Q4l.eq_2 (.o (.o (.b fun (p0:Q3)=>.pC 56 2 3 0x001d (.lc 0 2 3 Z5 p0.kids (.f [2,3] [8,56,80] [1,2,3,4] [0,8,56,80] (fun (k56:Nat) (s52:(List Q3))=>[(4,eI (k56:Int))]) (fun k56 s52=>[(1000000056,some ⟨3,[[(eI p0.ctor),(eI p0.n),(.sl 3 80 (s52).length)]],0,0x001d⟩),(80,some ⟨3,(List.map Z5 s52),0,0x001d⟩)]) (fun k56 s52=>.o (.g [1,2,3,4] [0,1,2,3] [] [(1000000002,some ⟨3,[[(eI p0.ctor),(eI p0.n),(.sl 3 3 (s52).length)]],0,0x001d⟩)] (.o (.o (.d [0,1,2,3,4,5,6,7,8,9,10,11] [0,2] [27] .z))))) (fun s60=>.z)))))))
instance W4j:∀ (p0:(List (List Q0))),Ct (Q43 p0) fun res=>Q6 Tryz.prog 0o00300 [(.slice 1 (List.map (rL 6 Q2) p0))] (fun d=>d=(.slice 1 (List.map (rL 6 Q2) res))):=
 au Tryz.func192 Q43.eq_1 (.o (.pF 8 (.ls 0 (.f [3] [16] [0,3,4] [16] (fun (k12196:Nat) (s12192:(List (List Q0)))=>[(3,.sl 1 16 (s12192).length),(4,eI (k12196:Int))]) (fun k12196 s12192=>[(16,some ⟨1,(List.map (rL 6 Q2) s12192),0,0x0062⟩)]) (fun k12196 s12192=>.b fun (x12197:(List Q0))=>.ll 0 (.f [0,4,5] [33] [0,3,4,5,6] [0,33] (fun (k13570:Nat) (s13566:(List (List Q0)))=>[(5,.sl 1 33 (s13566).length),(6,eI (k13570:Int))]) (fun k13570 s13566=>[(33,some ⟨1,(List.map (rL 6 Q2) s13566),0,0x0062⟩)]) (fun k13570 s13566=>.o (.i (.le 0 0 6 Q2 x12197 x12197 (.f [0,3,4,5,6] [0,1] [0,3,4,5,6,7] [0,1] (fun (k13668:Nat) (s13664:(List (List Q0)))=>[(5,.sl 1 1 (s13664).length),(7,eI (k13668:Int))]) (fun k13668 s13664=>[(1,some ⟨1,(List.map (rL 6 Q2) s13664),0,0x0062⟩)]) (fun k13668 s13664=>.o (.i (.g [0,3,4,5,6,7] [0,1] [] [] (.o (.o (.o (.dz [0,2,3,4,5,7,8,9,10,11,12,13,1,6,14,15,16,17,18] [0] [1048632] [] (.pF 2097168 .z)))))) .z)) (fun s13672=>.z))) .z)) (fun s13574=>.z))) (fun s12200=>.z)))))
instance W8v:∀ (n:Nat) (p0:ByteArray) (p1:Int),Ct (Q3h n p0 p1) fun res=>Q6 Tryz.prog 0o00527 [(eS p0),(.val (.int .u8 p1))] (fun d=>d=(.slice 1 (List.map rS res))):=
 au Tryz.func343 Q3h.eq_1 (.o (.o (.o (.w [5] [8] [0,1,5,6,7] [8] (fun (s203:(List ByteArray)×Int×Int)=>[(5,.sl 1 8 (s203.1).length),(6,eI s203.2.1),(7,eI s203.2.2)]) (fun s203=>[(8,some ⟨1,(List.map rS s203.1),0,0x0009⟩)]) (fun s203=>.i (.j 6 0 [0,1,5,6,7] [0] (fun (s230:(List ByteArray)×Int)=>[(5,.sl 1 0 (s230.1).length),(6,eI s230.2)]) (fun s230=>[(0,some ⟨1,(List.map rS s230.1),0,0x0009⟩)]) .z (fun _=>.z)) .z) (fun s211=>.z)))))
end Go.Proofs.YtfhpjeogjcfkaaaGreat
