import Derived.Test.YtjgapphpbkapmaaGreatNJC4d0
set_option linter.unusedSimpArgs false
set_option linter.unusedVariables false
namespace Go.Proofs.YtjgapphpbkapmaaGreat
open Go Go.RowKit
set_option maxRecDepth 100000
set_option maxHeartbeats 20000000
instance W77:∀ (n:Nat) (p0:(List Q3)) (p1:Q5) (p2:Q0),Ct (Q5r n p0 p1 p2) fun res=>Z1 Tryz.prog 0o00341 [(.slice 2 (List.map W2 p0)),(.agg (W1 p1)),(.agg (Q7 p2))] (fun d=>d=(eB res)):=
 au Tryz.func225 Q5r.eq_1 .z
instance W3c:∀ (n:Nat) (p0:Z7) (p1:(List Q3)) (p2:Q5),Ct (Q5c n p0 p1 p2) fun res=>J2 Tryz.prog 0o00373 [⟨2,[(V0 p0)],0,0x00c5⟩] [.ptr 2 0 0 0,(.slice 2 (List.map W2 p1)),(.agg (W1 p2))] (fun H d=>H=[some ⟨2,[(V0 res.2)],0,0x00c5⟩]∧d=(.agg (Q7 res.1))):=
 au Tryz.func251 Q5c.eq_1 (.o (.o (.o (.o (.g [0,1,5,6] [0,1,9] [] [] (.o (.o (.o (.dz [0,1,2,3,4,5,6,7,8,9,10,11,12,13,14] [1] [1048583] [] .z)))))))))
instance W76:∀ (n:Nat) (p0:(List Q3)) (p1:Q5) (p2:Z0),Ct (Q6u n p0 p1 p2) fun res=>Z1 Tryz.prog 0o00253 [(.slice 2 (List.map W2 p0)),(.agg (W1 p1)),(.agg (V6 p2))] (fun d=>d=(eB res)):=
 au Tryz.func171 Q6u.eq_1 (.o (.o (.o (.o (.g [0,4,5] [0,8] [] [] (.o (.i (.o (.o (.d [0,1,2,3,4,5,6,7,8,9,10,11,12,13,14,15] [0,1] [] .z))) (.d [0,1,2,3,4,5,6,7,8,9,10,11,12,13,14,15] [0,1] [] .z))))))))
end Go.Proofs.YtjgapphpbkapmaaGreat
