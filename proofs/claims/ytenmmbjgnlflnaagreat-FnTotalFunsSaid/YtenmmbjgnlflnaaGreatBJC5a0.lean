import Derived.Test.YtenmmbjgnlflnaaGreatBJC4c0
set_option linter.unusedSimpArgs false
set_option linter.unusedVariables false
namespace Go.Proofs.YtenmmbjgnlflnaaGreat
open Go Go.RowKit
set_option maxRecDepth 100000
set_option maxHeartbeats 20000000
instance W06:∀ (n:Nat) (p0:Int) (p1:Q1) (q0:(List GFun)),Ct (Q2n n p0 p1 q0) fun res=>Q7 Tryz.prog 0o00145 [(eI p0),(.agg (X0 p1)),.cptr [(.slice 6 (List.map Q0d q0))]] (fun d=>d=.tup [(eI res.1),(.slice 4 (List.map Q02 res.2.1)),(eI res.2.2)]):=
 au Tryz.func101 Q2n.eq_1 (.o (.o (.o (.o (.g [0,2,4] [0] [] [] (.o (.o (.d [0,1,2,3,4,5,6,7,8,9,10,11] [0] [] .z))))))))
theorem Q9j:∀ n:Nat,(∀ (p0:Q06) (p1:Int) (p2:Q1) (p3:Int),Ct (Q0a n p0 p1 p2 p3) fun res=>Q12 Tryz.prog 0o00053 [⟨7,[(Q18 p0)],0,0x006e⟩] [.ptr 7 0 0 0,(eI p1),(.agg (X0 p2)),(eI p3)] (fun H d=>H=[some ⟨7,[(Q18 res.2)],0,0x006e⟩]∧d=(.agg (X0 res.1))))∧(∀ (p0:Q06) (p1:Q2) (p2:Z1) (p3:(List X1)) (p4:Int),Ct (Y5 n p0 p1 p2 p3 p4) fun res=>Q12 Tryz.prog 0o00106 [⟨7,[(Q18 p0)],0,0x006e⟩] [.ptr 7 0 0 0,(.agg (Z7 p1)),(.agg (V8 p2)),(.slice 4 (List.map Q02 p3)),(eI p4)] (fun H d=>H=[some ⟨7,[(Q18 res.2)],0,0x006e⟩]∧d=(.agg (X0 res.1)))):=
 ar2 (au Tryz.func43 Q0a.eq_2 (.o (.o (.o (.o (.o (.o (.o (.i .z (.i .z (.g [0,1,3,6,8] [0,1,9] [] [] (.o (.d [0,1,2,3,4,5,6,7,8,9,10,11,12,13] [0,1] [] (.i .z (.g [0,1,3,8,9,10] [0,2] [] [] (.o (.o (.o (.d [0,1,2,3,4,5,6,7,8,9,10,11,12,13,14,15,16,17,18,19,20,21,22,23,24,25] [0] [1000070] .z)))))))))))))))))))
 (au Tryz.func70 Y5.eq_2 (.o (.o (.o (.o (.o (.b fun (p2:Z1)=>.o (.o (.i .z (.i .z (.j 8 0 [0,3,4,6,7,10,12] [0,1,9,17] (fun (s15:(List Q2))=>[(12,.slice 2 (List.map Z7 s15))]) (fun _=>[]) (.i (.g [0,3,4,6,7,10] [0,1,9,17] [] [] (.o (.d [0,1,2,3,4,5,6,7,8] [0,1,2] [] .z))) (.i (.pF 145 .z) (.g [0,3,4,6,7,10] [0,1,9,17] [] [] (.o (.d [0,1,2,3,4,5,6,7,8,9,10,11] [0,2] [] (.pF 4 .z)))))) (fun s15=>.pN 13 3 0x001b (.ls 64 (.f [0,4,6,7,10,13] [0,1,2,3,44] [0,3,4,6,7,10,12,13,64,65,66] [0,1,2,3,44] (fun (k109:Nat) (s105:Q06×(List Q1))=>[(13,.sl 3 44 (s105.2).length),(66,eI (k109:Int))]) (fun k109 s105=>[(0,some ⟨7,[(Q18 s105.1)],0,0x006e⟩),(44,some ⟨3,(List.map X0 s105.2),0,0x001b⟩)]) (fun k109 s105=>.o (.g [0,3,4,6,7,10,12,13,14,15,64,65,66] [0,1,2,3,4,37] [] [] (.o (.o (.dz [0,1,2,3,4,5,6,7,8,9,10] [5] [1048592] [] .z))))) (fun s113=>.i (.g [10,13] [0,3,4] [] [] (.o (.o (.o (.d [0,1,2,3,4,5,6,7,8,9,10,11] [2] [] .z))))) (.i (.g [0,6,10,17] [0,1,3,85,4] [] [(1000000085,some ⟨3,[[(eI p2.ctor),(eI 0),(.sl 3 4 (s113.2).length)]],0,0x001b⟩)] (.o (.d [0,1,2,3,4,5,6,7] [0,1,3] [] (.i .z (.pF 4 .z))))) (.g [0,4,7,10,13] [0,2,3,4] [] [] (.o (.o (.d [0,1,2,3,4,5,6,7,8] [1,3] [] .z))))))))))))))))))))
instance W05:∀ (n:Nat),∀ (p0:Q06) (p1:Int) (p2:Q1) (p3:Int),Ct (Q0a n p0 p1 p2 p3) fun res=>Q12 Tryz.prog 0o00053 [⟨7,[(Q18 p0)],0,0x006e⟩] [.ptr 7 0 0 0,(eI p1),(.agg (X0 p2)),(eI p3)] (fun H d=>H=[some ⟨7,[(Q18 res.2)],0,0x006e⟩]∧d=(.agg (X0 res.1))):=
 fun n=>(Q9j n).1
instance W04:∀ (n:Nat),∀ (p0:Q06) (p1:Q2) (p2:Z1) (p3:(List X1)) (p4:Int),Ct (Y5 n p0 p1 p2 p3 p4) fun res=>Q12 Tryz.prog 0o00106 [⟨7,[(Q18 p0)],0,0x006e⟩] [.ptr 7 0 0 0,(.agg (Z7 p1)),(.agg (V8 p2)),(.slice 4 (List.map Q02 p3)),(eI p4)] (fun H d=>H=[some ⟨7,[(Q18 res.2)],0,0x006e⟩]∧d=(.agg (X0 res.1))):=
 fun n=>(Q9j n).2
end Go.Proofs.YtenmmbjgnlflnaaGreat
