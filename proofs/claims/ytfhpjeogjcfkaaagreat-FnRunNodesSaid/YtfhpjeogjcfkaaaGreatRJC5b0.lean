import Derived.Test.YtfhpjeogjcfkaaaGreatRJC4d0
set_option linter.unusedSimpArgs false
set_option linter.unusedVariables false
namespace Go.Proofs.YtfhpjeogjcfkaaaGreat
open Go Go.RowKit
set_option maxRecDepth 100000
set_option maxHeartbeats 20000000
instance W5w:∀ (n:Nat) (p0:(List Q3)) (p1:(List Y5)) (p2:(List V2)) (p3:Int),Ct (Q4o n p0 p1 p2 p3) fun res=>Z2 Tryz.prog 0o00417 [(.slice 2 (List.map W8 p0)),(.slice 3 (List.map Q15 p1)),(.slice 3 (List.map Q1e p2)),(eI p3)] (fun d=>d=(eI res)):=
 au Tryz.func271 Q4o.eq_1 (.o (.o (.o (.o (.o (.o (.o (.w [9] [] [0,1,2,3,9,10] [] (fun (s543:Int×Int)=>[(9,eI s543.1),(10,eI s543.2)]) (fun s543=>[]) (fun s543=>.i (.i (.j 5 0 [0,1,2,3,9,10] [] (fun (s608:Int)=>[(9,eI s608)]) (fun _=>[]) (.o (.i .z (.j 6 0 [0,1,2,3,9,10] [] (fun (s626:Int)=>[(9,eI s626)]) (fun _=>[]) .z (fun s626=>.g [0,1,2,3,9,10] [] [] [] (.i (.o (.o (.o (.o (.d [0,1,2,3,4,5,6,7,8,9,12,13,14,15,16,17,18,10,11,19,20,21,22] [] [] .z))))) (.d [0,1,2,3,4,5,6,7,8,9,12,13,14,15,16,17,18,10,11,19,20,21,22] [] [] .z)))))) (fun _=>.z)) .z) .z) (fun s551=>.z)))))))))
end Go.Proofs.YtfhpjeogjcfkaaaGreat
