import Derived.Test.YtbdkbdafhlcilaaGreatCJMir
import Derived.Test.YtbdkbdafhlcilaaGreatCJAuto
import Derived.Test.YtbdkbdafhlcilaaGreatCJC3c0
import Derived.Test.YtbdkbdafhlcilaaGreatCJC3b0
import Derived.Test.YtbdkbdafhlcilaaGreatCJC0c0
set_option linter.unusedSimpArgs false
set_option linter.unusedVariables false
set_option linter.unusedSimpArgs false
set_option linter.unusedVariables false
namespace Go.Proofs.YtbdkbdafhlcilaaGreat
open Go Go.RowKit
set_option maxRecDepth 100000
set_option maxHeartbeats 20000000
instance W7m : ∀ (n : Nat) (p0 : (List Q3)), Ct (Q9n n p0) fun res => Q7 Tryz.prog 0o00414 [(.slice 2 (List.map X2 p0))] (fun d => d = (eS res)) :=
 au Tryz.func268 Q9n.eq_1 (.o (.o (.ls 0 (.f [3] [] [0, 3, 4] [] (fun (k866 : Nat) (s862 : ByteArray) => [(3, eS s862), (4, eI (k866 : Int))]) (fun k866 s862 => []) (fun k866 s862 => .b fun (x867 : Q3) => .j 5 1 [0, 3, 4] [] (fun (s956 : ByteArray) => [(3, eS s956)]) (fun _ => []) .z (fun s956 => .o (.o (.le 0 1 3 Q6i x867.ctors x867 (.f [0, 3, 4] [] [0, 3, 4, 5] [] (fun (k1014 : Nat) (s1010 : ByteArray) => [(3, eS s1010), (5, eI (k1014 : Int))]) (fun k1014 s1010 => []) (fun k1014 s1010 => .o (.j 11 1 [0, 3, 4, 5] [] (fun (s1030 : ByteArray) => [(3, eS s1030)]) (fun _ => []) .z (fun _ => .z))) (fun s1018 => .z)))))) (fun s870 => .z)))))
end Go.Proofs.YtbdkbdafhlcilaaGreat
set_option linter.unusedSimpArgs false
set_option linter.unusedVariables false
namespace Go.Proofs.YtbdkbdafhlcilaaGreat
open Go Go.RowKit
set_option maxRecDepth 100000
set_option maxHeartbeats 20000000
instance X5g : ∀ (n : Nat) (p0 : Q13) (p1 : Q2) (p2 : Q0), Ct (V3 n p0 p1 p2) fun res => Q7 Tryz.prog 0o00243 [.cptr (Q1v p0), (.agg (Z6 p1)), (.agg (Q1 p2))] (fun d => d = (eB res)) :=
 ar (au Tryz.func163 V3.eq_2 (.o (.o (.o (.o (.o (.j 2 0 [0, 4, 5, 10, 11] [0, 8] (fun (s20 : Bool) => [(11, eB s20)]) (fun _ => []) .z (fun s20 => .i (.g [0, 4] [0] [] [] (.o (.d [0, 1, 2, 3, 4, 5, 6, 7] [0] [] .z))) (.i (.g [0, 4, 5] [0, 1] [] [] (.o (.o (.i (.o (.o (.d [0, 1, 2, 3, 4, 5, 6, 7, 8, 9, 10, 11, 12, 13, 14, 15, 16] [0, 1] [] .z))) (.d [0, 1, 2, 3, 4, 5, 6, 7, 8, 9, 10, 11, 12, 13, 14, 15, 16] [0, 1] [] .z))))) (.g [0, 4, 5] [0, 1] [] [] (.o (.d [0, 1, 2, 3, 4, 5, 8, 6, 7] [0, 1] [] (.ls 45 (.f [] [] [0, 5, 45, 46, 47] [1] (fun (k102 : Nat) (s98 : Unit) => [(47, eI (k102 : Int))]) (fun k102 s98 => []) (fun k102 s98 => .o (.g [0, 5, 7, 8, 45, 46, 47] [0, 33] [] [] (.o (.o (.d [0, 1, 2, 3, 4, 5, 6, 7] [0, 1] [] .z))))) (fun s106 => .z)))))))))))))))
end Go.Proofs.YtbdkbdafhlcilaaGreat
