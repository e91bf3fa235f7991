import Derived.Test.YtgjpamkllimhdaaGreatJC3c0
set_option linter.unusedSimpArgs false
set_option linter.unusedVariables false
namespace Go.Proofs.YtgjpamkllimhdaaGreat
open Go Go.RowKit
set_option maxRecDepth 100000
set_option maxHeartbeats 20000000
instance W3g:∀ (n:Nat) (p0:(List Q4)),Ct (Q4p n p0) fun res=>Z1 Tryz.prog 0o00211 [(.slice 2 (List.map W1 p0))] (fun d=>d=(eB res)):=
 au Tryz.func137 Q4p.eq_1 (.o (.o (.i .z (.ls 0 (.f [] [] [0,3,4,14,15,16] [32,48] (fun (k1660:Nat) (s1656:(List (ByteArray×Bool))×(List (ByteArray×Bool)))=>[(16,eI (k1660:Int))]) (fun k1660 s1656=>[(32,some ⟨0,List.map rSB s1656.1,0,0x00f4⟩),(48,some ⟨0,List.map rSB s1656.2,0,0x00f4⟩)]) (fun k1660 s1656=>.o (.i .z (.o (.i .z (.i .z (.i .z (.i .z (.o (.i .z (.ls 49 (.f [0,3,4,14,15,16] [0,1] [0,3,4,14,15,16,58,59,60] [0,1] (fun (k1952:Nat) (s1948:(List (ByteArray×Bool)))=>[(60,eI (k1952:Int))]) (fun k1952 s1948=>[(0,some ⟨0,List.map rSB s1948,0,0x00f4⟩)]) (fun k1952 s1948=>.z) (fun s1956=>.z)))))))))))) (fun s1664=>.z))))))
end Go.Proofs.YtgjpamkllimhdaaGreat
