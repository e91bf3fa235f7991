import Derived.Test.YtjgapphpbkapmaaGreatNJC1c0
import Derived.Test.YtjgapphpbkapmaaGreatNJC1d0
import Derived.Test.YtjgapphpbkapmaaGreatNJC1a0
import Derived.Test.YtjgapphpbkapmaaGreatNJC1b0
set_option linter.unusedSimpArgs false
set_option linter.unusedVariables false
namespace Go.Proofs.YtjgapphpbkapmaaGreat
open Go Go.RowKit
set_option maxRecDepth 100000
set_option maxHeartbeats 20000000
instance X5o:∀ (p0:Q6) (q0:(List Q6)),Ct (Q47 p0 q0) fun res=>Z1 Tryz.prog 0o00450 [(.agg (V1 p0)),.cptr [(.slice 3 (List.map V1 q0))]] (fun d=>d=(eB res)):=
 au Tryz.func296 Q47.eq_1 .z
instance Z5o:∀ (n:Nat) (p0:(List Q1)) (p1:(Q1→Q1→Option Int)) {p1_f:FuncId} {p1_c:List D} [p1_i:CF2 (fun a0=>(.agg (Q8 a0))) (fun a1=>(.agg (Q8 a1))) (fun r=>(eI r)) p1 p1_f p1_c],Ct (J5 n p0 p1) fun res=>J2 Tryz.prog 0o00131 [⟨2,List.map Q8 p0,0,0x008b⟩] [.sl 2 0 p0.length,.clos p1_f p1_c] (fun H d=>H=[some ⟨2,List.map Q8 res,0,0x008b⟩]∧d=.tup []):=
 au Tryz.func89 J5.eq_1 .z
instance W3m:∀ (p0:(List Q3)) (p1:(List Int)) (p2:Q5) (p3:Int),Ct (Q3a p0 p1 p2 p3) fun res=>Z1 Tryz.prog 0o00371 [(.slice 2 (List.map W2 p0)),(.slice 1 (List.map rI p1)),(.agg (W1 p2)),(eI p3)] (fun d=>d=(eI res)):=
 au Tryz.func249 Q3a.eq_1 (.o (.o (.o (.o (.o (.ls 16 (.f [10] [] [1,9,10,11] [] (fun (k92:Nat) (s88:Int)=>[(10,eI s88),(11,eI (k92:Int))]) (fun k92 s88=>[]) (fun k92 s88=>.o (.j 6 0 [1,9,10,11] [] (fun (s101:Int)=>[(10,eI s101)]) (fun _=>[]) .z (fun _=>.z))) (fun s96=>.z))))))))
instance W5k:∀ (p0:(List Q3)) (p1:Q5) (p2:Q0),Ct (Q61 p0 p1 p2) fun res=>Z1 Tryz.prog 0o00442 [(.slice 2 (List.map W2 p0)),(.agg (W1 p1)),(.agg (Q7 p2))] (fun d=>d=(eB res)):=
 au Tryz.func290 Q61.eq_1 (.o (.o (.o (.e (.j 1 0 [0,4,5,7] [0,8] (fun (s2:Bool)=>[(7,eB s2)]) (fun _=>[]) .z (fun s2=>.j 2 0 [0,4,5] [0,1] (fun (s17:Unit)=>[]) (fun _=>[]) .z (fun s17=>.j 4 0 [0,4,5] [0,1] (fun (s50:Unit)=>[]) (fun _=>[]) .z (fun s50=>.j 7 0 [0,4,5,60,61] [0,1] (fun (s95:Bool)=>[(61,eB s95)]) (fun _=>[]) .z (fun s95=>.i .z (.i .z (.i (.g [0,4,5] [0,1] [] [] (.o (.o (.d [0,1,3,4,2,5,6] [0,1] [] .z)))) .z)))))))))))
instance X71:∀ (n:Nat) (p0:(List Q3)) (p1:Q5) (p2:Z2) (p3:Int) (p4:Bool) (p5:Int),Ct (Q1c n p0 p1 p2 p3 p4 p5) fun res=>J2 Tryz.prog 0o00114 [⟨1,[[(eI p5)]],0,0x0003⟩] [(.slice 2 (List.map W2 p0)),(.agg (W1 p1)),(.agg (V2 p2)),(eI p3),(eB p4),.ptr 1 0 0 0] (fun H d=>H=[some ⟨1,[[(eI res.2)]],0,0x0003⟩]∧d=(eB res.1)):=
 ar (au Tryz.func76 Q1c.eq_2 (.o (.o (.o (.o (.o (.o (.o (.o (.i .z (.i .z (.j 4 0 [0,3,4,5,7,8] [0,1,9] (fun (s92:Unit)=>[]) (fun _=>[]) (.i (.i .z (.i .z (.g [0,3,4,5,7,8] [0,1,9] [] [] (.i (.d [0,1,2,3,4,5,7,8,6,9,10,11,12] [2] [] .z) (.o (.o (.d [0,1,2,3,4,5,7,8,6,9,10,11,12] [1,2] [] .z))))))) (.i .z (.g [0,3,4,5,7,8] [0,1,9] [] [] (.i (.d [0,1,2,3,4,5,7,8,6,9,10,11,12] [2] [] .z) (.o (.o (.d [0,1,2,3,4,5,7,8,6,9,10,11,12] [1,2] [] .z))))))) (fun s92=>.o (.i .z (.ls 84 (.f [] [0] [0,3,4,5,13,88,89,90] [0] (fun (k244:Nat) (s240:Int)=>[(90,eI (k244:Int))]) (fun k244 s240=>[(0,some ⟨1,[[(eI s240)]],0,0x0003⟩)]) (fun k244 s240=>.o (.g [0,3,4,5,13,14,15,88,89,90] [0,33] [] [] (.o (.o (.d [0,1,2,3,4,5,6,7,8,9,10,11] [1] [] .z))))) (fun s248=>.z)))))))))))))))))
instance W3h:∀ (n:Nat) (p0:(List Q3)) (p1:Q5) (p2:Z2) (p3:Int),Ct (Q29 n p0 p1 p2 p3) fun res=>Z1 Tryz.prog 0o00143 [(.slice 2 (List.map W2 p0)),(.agg (W1 p1)),(.agg (V2 p2)),(eI p3)] (fun d=>d=(eB res)):=
 ar (au Tryz.func99 Q29.eq_2 (.o (.o (.o (.o (.o (.o (.i .z (.i .z (.g [0,3,5,6] [0,8] [] [] (.i (.d [0,1,2,3,4,5,7,8,6,9,10,11] [1] [] .z) (.o (.o (.d [0,1,2,3,4,5,7,8,6,9,10,11] [0,1] [] (.i .z (.o (.i .z (.ls 51 (.f [] [] [0,3,6,9,10] [1] (fun (k105:Nat) (s101:Unit)=>[(10,eI (k105:Int))]) (fun k105 s101=>[]) (fun k105 s101=>.o (.g [0,3,6,9,10] [0] [] [] (.o (.o (.d [0,1,2,3,4,5,6,7,8,9,10,11,12,13] [0] [] .z))))) (fun s109=>.z))))))))))))))))))))
instance X90:∀ (p0:(List Q3)) (p1:(List Y1)) (p2:Int) (p3:Q9),Ct (Q1w p0 p1 p2 p3) fun res=>Z1 Tryz.prog 0o00356 [(.slice 2 (List.map W2 p0)),(.slice 3 (List.map Q0z p1)),(eI p2),(.agg (Y8 p3))] (fun d=>d=(.slice 3 (List.map Q0z res))):=
 au Tryz.func238 Q1w.eq_1 (.o (.o (.o (.o (.o (.o (.j 2 0 [1,2,9] [48] (fun (s38:(List Y1))=>[(9,.sl 3 48 (s38).length)]) (fun s38=>[(48,some ⟨3,(List.map Q0z s38),0,0x00ec⟩)]) (.i (.g [0,1,2,7,9] [0,48] [] [] (.o (.o (.d [0,1,2,3,4,5,6,7,8,9] [0] [] (.ls 28 (.f [1,2,9] [1] [1,2,9,10,11] [1] (fun (k67:Nat) (s63:(List Y1))=>[(9,.sl 3 1 (s63).length),(11,eI (k67:Int))]) (fun k67 s63=>[(1,some ⟨3,(List.map Q0z s63),0,0x00ec⟩)]) (fun k67 s63=>.o (.g [1,2,9,10,11] [0] [] [] (.o (.o (.d [0,1,2,3,4,5,6,8,9,10,11,7,12,13,14,15] [] [] .z))))) (fun s71=>.z))))))) .z) (fun _=>.z))))))))
end Go.Proofs.YtjgapphpbkapmaaGreat
