import Derived.Test.YtfhpjeogjcfkaaaGreatBJC4d0
set_option linter.unusedSimpArgs false
set_option linter.unusedVariables false
namespace Go.Proofs.YtfhpjeogjcfkaaaGreat
open Go Go.RowKit
set_option maxRecDepth 100000
set_option maxHeartbeats 20000000
instance V4p:∀ (n:Nat) (p0:(List Q4)) (p1:(List Q01)) (p2:(List Y3)) (p3:Int),Ct (Q6w n p0 p1 p2 p3) fun res=>Q8 Tryz.prog 0o00417 [(.slice 2 (List.map W5 p0)),(.slice 3 (List.map Q2b p1)),(.slice 3 (List.map Q2n p2)),(eI p3)] (fun d=>d=(eI res)):=
 au Tryz.func271 Q6w.eq_1 (.o (.o (.o (.o (.o (.o (.o (.w [9] [] [0,1,2,3,9,10] [] (fun (s543:Int×Int)=>[(9,eI s543.1),(10,eI s543.2)]) (fun s543=>[]) (fun s543=>.i (.i (.j 5 0 [0,1,2,3,9,10] [] (fun (s608:Int)=>[(9,eI s608)]) (fun _=>[]) (.o (.i .z (.j 6 0 [0,1,2,3,9,10] [] (fun (s626:Int)=>[(9,eI s626)]) (fun _=>[]) .z (fun s626=>.g [0,1,2,3,9,10] [] [] [] (.i (.o (.o (.o (.o (.d [0,1,2,3,4,5,6,7,8,9,12,13,14,15,16,17,18,10,11,19,20,21,22] [] [] .z))))) (.d [0,1,2,3,4,5,6,7,8,9,12,13,14,15,16,17,18,10,11,19,20,21,22] [] [] .z)))))) (fun _=>.z)) .z) .z) (fun s551=>.z)))))))))
end Go.Proofs.YtfhpjeogjcfkaaaGreat
