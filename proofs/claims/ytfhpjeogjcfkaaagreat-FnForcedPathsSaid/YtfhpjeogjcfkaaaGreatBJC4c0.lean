import Derived.Test.YtfhpjeogjcfkaaaGreatBJC3d0
import Derived.Test.YtfhpjeogjcfkaaaGreatBJC3a0
set_option linter.unusedSimpArgs false
set_option linter.unusedVariables false
namespace Go.Proofs.YtfhpjeogjcfkaaaGreat
open Go Go.RowKit
set_option maxRecDepth 100000
set_option maxHeartbeats 20000000
instance V56:∀ (n:Nat) (p0:(List Q4)),Ct (Z2f n p0) fun res=>Q8 Tryz.prog 0o00531 [(.slice 2 (List.map W5 p0))] (fun d=>d=(eS res)):=
 au Tryz.func345 Z2f.eq_1 (.o (.o (.ls 0 (.f [3] [] [0,3,4] [] (fun (k866:Nat) (s862:ByteArray)=>[(3,eS s862),(4,eI (k866:Int))]) (fun k866 s862=>[]) (fun k866 s862=>.b fun (x867:Q4)=>.j 5 1 [0,3,4] [] (fun (s956:ByteArray)=>[(3,eS s956)]) (fun _=>[]) .z (fun s956=>.o (.o (.le 0 1 3 Q8d x867.ctors x867 (.f [0,3,4] [] [0,3,4,5] [] (fun (k1014:Nat) (s1010:ByteArray)=>[(3,eS s1010),(5,eI (k1014:Int))]) (fun k1014 s1010=>[]) (fun k1014 s1010=>.o (.j 11 1 [0,3,4,5] [] (fun (s1030:ByteArray)=>[(3,eS s1030)]) (fun _=>[]) .z (fun _=>.z))) (fun s1018=>.z)))))) (fun s870=>.z)))))
instance W5f:∀ (n:Nat) (p0:(List Q4)),Ct (Q51 n p0) fun res=>Q8 Tryz.prog 0o00260 [(.slice 2 (List.map W5 p0))] (fun d=>d=(eB res)):=
 au Tryz.func176 Q51.eq_1 (.o (.o (.i .z (.ls 0 (.f [] [] [0,3,4,14,15,16] [32,48] (fun (k1660:Nat) (s1656:(List (ByteArray×Bool))×(List (ByteArray×Bool)))=>[(16,eI (k1660:Int))]) (fun k1660 s1656=>[(32,some ⟨0,List.map rSB s1656.1,0,0x0126⟩),(48,some ⟨0,List.map rSB s1656.2,0,0x0126⟩)]) (fun k1660 s1656=>.o (.i .z (.o (.i .z (.i .z (.i .z (.i .z (.o (.i .z (.ls 49 (.f [0,3,4,14,15,16] [0,1] [0,3,4,14,15,16,58,59,60] [0,1] (fun (k1952:Nat) (s1948:(List (ByteArray×Bool)))=>[(60,eI (k1952:Int))]) (fun k1952 s1948=>[(0,some ⟨0,List.map rSB s1948,0,0x0126⟩)]) (fun k1952 s1948=>.z) (fun s1956=>.z)))))))))))) (fun s1664=>.z))))))
end Go.Proofs.YtfhpjeogjcfkaaaGreat
