import Derived.Test.YtenmmbjgnlflnaaGreatBJMir
set_option linter.unusedSimpArgs false
set_option linter.unusedVariables false
namespace Go.Proofs.YtenmmbjgnlflnaaGreat
open Go Go.RowKit
mutual
def Q5p:Nat→Q0→Int→Option (Bool)
 | 0,_,_=>none
 | n+1,p0,p1=>
  (if (ieq p0.op 2)=true then
  (if (ieq p0.var p1)=true then
  some (true)
  else
  ((X4 p0.kids (fun a0=>Q31 n a0 p1)).bind fun r13=>
  some (r13)))
  else
  (if (ieq p0.op 6)=true then
  (if (ieq p0.var p1)=true then
  some (true)
  else
  ((X4 p0.kids (fun a0=>Q31 n a0 p1)).bind fun r17=>
  some (r17)))
  else
  ((X4 p0.kids (fun a0=>Q31 n a0 p1)).bind fun r19=>
  some (r19))))
def Q31:Nat→Q0→Int→Option (Bool)
 | 0,_,_=>none
 | n+1,p0,q0=>
  ((Q5p n p0 q0).bind fun r1=>
  some (r1))
end
def Q8j (n:Nat)(p0:Q0)(q0:Int):Option (Bool):=
  ((Q5p n p0 q0).bind fun r1=>
  some (r1))
def Q4o:Nat→Q0→Int→Option (Bool)
 | 0,_,_=>none
 | n+1,p0,p1=>
  (if (ieq p0.op 6)=true then
  ((idx p0.kids 0).bind fun x26=>
  ((Q4o n x26 p1).bind fun r27=>
  some (r27)))
  else
  (if (ieq p0.op 5)=true then
  ((idx p0.kids 0).bind fun x38=>
  ((Q4o n x38 p1).bind fun r39=>
  (if r39=true then
  ((idx p0.kids 1).bind fun x41=>
  ((Q4o n x41 p1).bind fun r42=>
  some (r42)))
  else
  some (false))))
  else
  (if (ieq p0.op 4)=true then
  ((X4 p0.kids (fun a0=>Q8j n a0 p1)).bind fun r47=>
  some (r47))
  else
  some (false))))
def Q5o (p0:(List Z1))(p1:(Z1→Option Bool)):Option (Int):=
  ((forL (fun k68 x69 (s62:Unit)=>
  ((p1 x69).bind fun r76=>
  (if r76=true then
  some (Ctl.ret ((k68:Int)))
  else
  some (Ctl.go ())))) 0 p0 ()).bind fun (o61:Ctl _ (Unit))=>match o61 with
  | .ret r=>some r
  | .go _=>none
  | .brk s72=>
  some ((-1)))
def Q11 (p0:(List Z1))(p1:(Z1→Option Bool)):Option (Bool):=
  ((Q5o p0 p1).bind fun r1=>
  some (ile 0 r1))
mutual
def Q44:Nat→Z1→Int→Q0→Option (Bool)
 | 0,_,_,_=>none
 | n+1,p0,p1,p2=>
  (((if (ieq p0.op 5)=true then
  (if (ile p1 p0.n)=true then
  (if (ilt p1 p0.n)=true then
  some (Ctl.ret (false))
  else
  ((idx p0.kids 0).bind fun x46=>
  (if (!ieq x46.op 2)=true then
  some (Ctl.ret (false))
  else
  ((Q4o n p2 x46.n).bind fun r48=>
  (if (!r48)=true then
  some (Ctl.ret (false))
  else
  some (Ctl.brk ()))))))
  else
  some (Ctl.brk ()))
  else
  some (Ctl.brk ()))).bind fun (o25:Ctl _ (Unit))=>match o25 with
  | .ret r=>some r
  | .go _=>none
  | .brk s24=>
  ((Q11 p0.kids (fun a0=>Q3p n a0 p1 p2)).bind fun r51=>
  some ((!r51))))
def Q3p:Nat→Z1→Int→Q0→Option (Bool)
 | 0,_,_,_=>none
 | n+1,p0,q0,q1=>
  ((Q44 n p0 q0 q1).bind fun r1=>
  some ((!r1)))
end
def Q14 (n:Nat)(p0:(List Q4))(p1:(List GFun))(p2:Int):Option (Bool):=
  ((Q1e n p0 p1).bind fun r34=>
  (if (!r34)=true then
  some (false)
  else
  ((X9 p2 0 (wsub .i64 (lenZ p1.length) 1)).bind fun r37=>
  (if (!r37)=true then
  some (false)
  else
  ((idx p1 p2).bind fun x85=>
  ((forL (fun k118 x119 (s112:Unit)=>
  ((idx x85.clauses (k118:Int)).bind fun x127=>
  ((Q44 n x119 p2 x127.pat).bind fun r128=>
  (if (!r128)=true then
  some (Ctl.ret (false))
  else
  some (Ctl.go ()))))) 0 x85.bodies ()).bind fun (o111:Ctl _ (Unit))=>match o111 with
  | .ret r=>some r
  | .go _=>none
  | .brk s122=>
  some (true)))))))
def Q1w:Nat→Z1→Int→(List Int)→Option (Bool)
 | 0,_,_,_=>none
 | n+1,p0,p1,p2=>
  (((if (ieq p0.op 5)=true then
  (if (ilt p1 p0.n)=true then
  some (Ctl.ret (false))
  else
  (if (ieq p0.n p1)=true then
  ((idx p0.kids 0).bind fun x46=>
  (if (!ieq x46.op 2)=true then
  some (Ctl.ret (false))
  else
  ((Q3g p2 x46.n).bind fun r48=>
  (if (!r48)=true then
  some (Ctl.ret (false))
  else
  some (Ctl.brk ())))))
  else
  some (Ctl.brk ())))
  else
  some (Ctl.brk ()))).bind fun (o25:Ctl _ (Unit))=>match o25 with
  | .ret r=>some r
  | .go _=>none
  | .brk s24=>
  ((forL (fun k118 x119 (s112:Unit)=>
  ((Q1w n x119 p1 p2).bind fun r126=>
  (if (!r126)=true then
  some (Ctl.ret (false))
  else
  some (Ctl.go ())))) 0 p0.kids ()).bind fun (o111:Ctl _ (Unit))=>match o111 with
  | .ret r=>some r
  | .go _=>none
  | .brk s122=>
  some (true)))
def Q2y:Nat→(List Q4)→Q2→Q0→Option ((List Int))
 | 0,_,_,_=>none
 | n+1,p0,p1,p2=>
  (if (ieq p2.op 6)=true then
  ((idx p2.kids 0).bind fun x548=>
  ((Q2y n p0 p1 x548).bind fun r549=>
  some (r549)))
  else
  (if (ieq p2.op 5)=true then
  ((idx p2.kids 0).bind fun x552=>
  ((Q2y n p0 p1 x552).bind fun r553=>
  ((idx p2.kids 1).bind fun x554=>
  ((Q2y n p0 p1 x554).bind fun r555=>
  ((forL (fun k655 x656 (s649:(List Int))=>
  ((((Q3g r555 x656).bind fun r668=>
  (if r668=true then
  ((app s649 [x656]).bind fun x670=>
  some (Ctl.brk x670))
  else
  some (Ctl.brk s649)))).bind fun (o665:Ctl _ ((List Int)))=>match o665 with
  | .ret r=>some r
  | .go _=>none
  | .brk s664=>
  some (Ctl.go s664))) 0 r553 []).bind fun (o648:Ctl _ ((List Int)))=>match o648 with
  | .ret r=>some r
  | .go _=>none
  | .brk s659=>
  some (s659))))))
  else
  (if (ieq p2.op 4)=true then
  ((V2 p0 p1 p2.ctor).bind fun r675=>
  ((forL (fun k1025 x1026 (s1019:(List Int))=>
  ((idx p2.kids (k1025:Int)).bind fun x1061=>
  ((Q0k n [] p0 x1026 x1061).bind fun r1062=>
  ((forL (fun k1084 x1085 (s1078:(List Int))=>
  ((app s1078 [x1085.var]).bind fun x1090=>
  some (Ctl.go x1090))) 0 r1062 s1019).bind fun (o1077:Ctl _ ((List Int)))=>match o1077 with
  | .ret r=>some r
  | .go _=>none
  | .brk s1088=>
  some (Ctl.go s1088))))) 0 r675 []).bind fun (o1018:Ctl _ ((List Int)))=>match o1018 with
  | .ret r=>some r
  | .go _=>none
  | .brk s1029=>
  some (s1029)))
  else
  some ([]))))
def Q0h (n:Nat)(p0:(List Q4))(p1:(List GFun))(p2:Int):Option (Bool):=
  ((Q0w n p0 p1).bind fun r34=>
  (if (!r34)=true then
  some (false)
  else
  (if (ilt p2 0)=true then
  some (false)
  else
  (if (ile (lenZ p1.length) p2)=true then
  some (false)
  else
  ((idx p1 p2).bind fun x40=>
  ((forL (fun k138 x139 (s132:Unit)=>
  ((idx x40.bodies (k138:Int)).bind fun x149=>
  ((Q2y n p0 x40.typ.arg x139.pat).bind fun r150=>
  ((Q1w n x149 p2 r150).bind fun r151=>
  (if (!r151)=true then
  some (Ctl.ret (false))
  else
  some (Ctl.go ())))))) 0 x40.clauses ()).bind fun (o131:Ctl _ (Unit))=>match o131 with
  | .ret r=>some r
  | .go _=>none
  | .brk s142=>
  some (true)))))))
def Q17 (n:Nat)(p0:(List Int)):Option (Bool):=
  (if (ilt 1048576 (lenZ p0.length))=true then
  some (true)
  else
  ((Q2k n p0).bind fun r3=>
  ((Q14 n r3.1 r3.2.1 r3.2.2.1).bind fun r4=>
  ((Q0h n r3.1 r3.2.1 r3.2.2.1).bind fun r40=>
  (if (!(r4==r40))=true then
  ((Q0h n r3.1 r3.2.1 r3.2.2.1).bind fun r42=>
  some ((r4==r42)))
  else
  (if (!r4)=true then
  ((Q0h n r3.1 r3.2.1 r3.2.2.1).bind fun r46=>
  some ((r4==r46)))
  else
  ((whileL (fun (s125:Bool×Int)=>
  (if (ilt s125.2 r3.2.2.1)=true then
  (((if s125.1=true then
  ((Q14 n r3.1 r3.2.1 s125.2).bind fun r146=>
  some (Ctl.brk r146))
  else
  some (Ctl.brk false))).bind fun (o142:Ctl _ (Bool))=>match o142 with
  | .ret r=>some r
  | .go _=>none
  | .brk s141=>
  some (Ctl.go (s141,wadd .i64 s125.2 1)))
  else
  some (Ctl.brk (s125.1,s125.2)))) n (r4,0)).bind fun (o124:Ctl _ (Bool×Int))=>match o124 with
  | .ret r=>some r
  | .go _=>none
  | .brk s135=>
  ((Q5r n r3.1 r3.2.1 r3.2.2.1 r3.2.2.2.1 r3.2.2.2.2).bind fun r148=>
  (if (!s135.1)=true then
  some (true)
  else
  some (!ieq r148.2 3))))))))))
end Go.Proofs.YtenmmbjgnlflnaaGreat
