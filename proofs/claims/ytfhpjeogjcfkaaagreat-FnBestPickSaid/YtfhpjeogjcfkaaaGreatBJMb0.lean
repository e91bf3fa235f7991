import Derived.Test.YtfhpjeogjcfkaaaGreatBJMir
set_option linter.unusedSimpArgs false
set_option linter.unusedVariables false
namespace Go.Proofs.YtfhpjeogjcfkaaaGreat
open Go Go.RowKit
def Q19 (n:Nat)(p0:(List Int)):Option ((List Q4)×Q7×(List Q3)):=
  ((Q1t p0).bind fun r1=>
  ((Q2h n r1).bind fun r2=>
  (((if (ilt 0 (lenZ r2.2.2.1.length))=true then
  ((Z8 r2.2.2.2.2 4).bind fun r35=>
  (if (ieq r35.1 0)=true then
  ((Q36).bind fun r37=>
  ((app r2.2.2.1 [(Q3.mk r37 (Q27.mk 0 0 0))]).bind fun x38=>
  some (Ctl.brk (r35.2,x38))))
  else
  some (Ctl.brk (r35.2,r2.2.2.1))))
  else
  some (Ctl.brk (r2.2.2.2.2,r2.2.2.1)))).bind fun (o21:Ctl _ (X1×(List Q3)))=>match o21 with
  | .ret r=>some r
  | .go _=>none
  | .brk s20=>
  ((Q3k n s20.1 s20.2).bind fun r41=>
  some ((r2.1,r2.2.1,r41.1))))))
def Q10 (n:Nat)(p0:(List Int)):Option ((List Q4)×Q7×(List Q3)):=
  ((Q1t p0).bind fun r1=>
  ((Q19 n p0).bind fun r2=>
  (((if (ilt 0 (lenZ r2.2.2.length))=true then
  (if (ilt (lenZ r2.2.2.length) 8)=true then
  ((Z8 r1 2).bind fun r44=>
  (if (ieq r44.1 0)=true then
  ((Z8 r44.2 (lenZ r2.2.2.length)).bind fun r46=>
  ((idx r2.2.2 r46.1).bind fun x47=>
  ((app r2.2.2 [x47]).bind fun x48=>
  some (Ctl.brk x48))))
  else
  some (Ctl.brk r2.2.2)))
  else
  some (Ctl.brk r2.2.2))
  else
  some (Ctl.brk r2.2.2))).bind fun (o26:Ctl _ ((List Q3)))=>match o26 with
  | .ret r=>some r
  | .go _=>none
  | .brk s25=>
  some ((r2.1,r2.2.1,s25)))))
def Q5g (n:Nat)(p0:(List Int)):Option ((List Q4)×Q7×(List Q3)):=
  ((Q10 n p0).bind fun r1=>
  some ((r1.1,r1.2.1,r1.2.2)))
def Q3n (p0:X0):Option ((List X0)):=
  ((forL (fun k50 x51 (s44:(List X0))=>
  ((app s44 [x51.tree]).bind fun x56=>
  some (Ctl.go x56))) 0 p0.branches []).bind fun (o43:Ctl _ ((List X0)))=>match o43 with
  | .ret r=>some r
  | .go _=>none
  | .brk s54=>
  ((app s54 p0.else_).bind fun x57=>
  some (x57)))
def Q34 (p0:(List X0))(p1:(X0→Option Bool)):Option (Int):=
  ((forL (fun k68 x69 (s62:Unit)=>
  ((p1 x69).bind fun r76=>
  (if r76=true then
  some (Ctl.ret ((k68:Int)))
  else
  some (Ctl.go ())))) 0 p0 ()).bind fun (o61:Ctl _ (Unit))=>match o61 with
  | .ret r=>some r
  | .go _=>none
  | .brk s72=>
  some ((-1)))
def Q0j (p0:(List X0))(p1:(X0→Option Bool)):Option (Bool):=
  ((Q34 p0 p1).bind fun r1=>
  some (ile 0 r1))
mutual
def Q5i:Nat→X0→Option (Bool)
 | 0,_=>none
 | n+1,p0=>
  ((Y2 p0.op 0 2).bind fun r13=>
  (if r13=true then
  (if (ile (lenZ p0.branches.length) 10)=true then
  (if (ile (lenZ p0.else_.length) 1)=true then
  ((Q3n p0).bind fun r17=>
  ((Q0j r17 (fun a0=>Q6h n a0)).bind fun r18=>
  some ((!r18))))
  else
  some (false))
  else
  some (false))
  else
  some (false)))
def Q6h:Nat→X0→Option (Bool)
 | 0,_=>none
 | n+1,p0=>
  ((Q5i n p0).bind fun r1=>
  some ((!r1)))
end
def Q1y (p0:(List Q0a))(p1:(Q0a→Option Bool)):Option (Int):=
  ((forL (fun k68 x69 (s62:Unit)=>
  ((p1 x69).bind fun r76=>
  (if r76=true then
  some (Ctl.ret ((k68:Int)))
  else
  some (Ctl.go ())))) 0 p0 ()).bind fun (o61:Ctl _ (Unit))=>match o61 with
  | .ret r=>some r
  | .go _=>none
  | .brk s72=>
  some ((-1)))
def Q20 (p0:(List Q1))(p1:(List Q1))(p2:(Q1→Q1→Option Bool)):Option (Bool):=
  (if (!ieq (lenZ p0.length) (lenZ p1.length))=true then
  some (false)
  else
  ((forL (fun k80 x81 (s74:Unit)=>
  ((idx p1 (k80:Int)).bind fun x89=>
  ((p2 x81 x89).bind fun r90=>
  (if (!r90)=true then
  some (Ctl.ret (false))
  else
  some (Ctl.go ()))))) 0 p0 ()).bind fun (o73:Ctl _ (Unit))=>match o73 with
  | .ret r=>some r
  | .go _=>none
  | .brk s84=>
  some (true)))
def Q66 (p0:Q1)(p1:Q1):Option (Bool):=
  (if (ieq p0.var p1.var)=true then
  ((J3 p0.path p1.path).bind fun r5=>
  some (r5))
  else
  some (false))
def Q40 (p0:(List Q1))(p1:(List Q1)):Option (Bool):=
  ((Q20 p0 p1 (fun a0 a1=>Q66 a0 a1)).bind fun r1=>
  some (r1))
def Q2c (p0:(List Z11))(p1:(List Z11)):Option (Bool):=
  (if (!ieq (lenZ p0.length) (lenZ p1.length))=true then
  some (false)
  else
  ((forL (fun k60 x61 (s54:Unit)=>
  ((idx p1 (k60:Int)).bind fun x67=>
  (if (!Q8r [ieq x61.ctor x67.ctor,ieq x61.n x67.n,ieq x61.m x67.m,ieq x61.to x67.to])=true then
  some (Ctl.ret (false))
  else
  some (Ctl.go ())))) 0 p0 ()).bind fun (o53:Ctl _ (Unit))=>match o53 with
  | .ret r=>some r
  | .go _=>none
  | .brk s64=>
  some (true)))
def Q6j (p0:Q0a)(p1:Q0a):Option (Bool):=
  (if (ieq p0.op p1.op)=true then
  (if (ieq p0.clause p1.clause)=true then
  ((Q40 p0.binds p1.binds).bind fun r20=>
  (if r20=true then
  ((J3 p0.path p1.path).bind fun r22=>
  (if r22=true then
  ((Q2c p0.edges p1.edges).bind fun r24=>
  (if r24=true then
  some (ieq p0.else_ p1.else_)
  else
  some (false)))
  else
  some (false)))
  else
  some (false)))
  else
  some (false))
  else
  some (false))
def Q9f (p0:Q0a)(q0:Q0a):Option (Bool):=
  ((Q6j p0 q0).bind fun r1=>
  some (r1))
def Q58:Nat→X0→(List Q0a)→Option (Int×(List Q0a))
 | 0,_,_=>none
 | n+1,p0,p1=>
  ((Q3o p0.binds).bind fun r1=>
  ((X7 p0.path).bind fun r2=>
  ((forL (fun k60 x61 (s56:(List Q0a)×(List Z11))=>
  ((Q58 n x61.tree s56.1).bind fun r67=>
  ((app s56.2 [(Z11.mk x61.ctor x61.n x61.m r67.1)]).bind fun x68=>
  some (Ctl.go (r67.2,x68))))) 0 p0.branches (p1,[])).bind fun (o55:Ctl _ ((List Q0a)×(List Z11)))=>match o55 with
  | .ret r=>some r
  | .go _=>none
  | .brk s64=>
  ((forL (fun k116 x117 (s112:(List Q0a)×Int)=>
  ((Q58 n x117 s112.1).bind fun r122=>
  some (Ctl.go (r122.2,r122.1)))) 0 p0.else_ (s64.1,(-1))).bind fun (o111:Ctl _ ((List Q0a)×Int))=>match o111 with
  | .ret r=>some r
  | .go _=>none
  | .brk s120=>
  ((Q1y s120.1 (fun a0=>Q9f a0 (Q0a.mk p0.op p0.clause r1 r2 s64.2 s120.2))).bind fun r123=>
  (((if (ilt r123 0)=true then
  ((app s120.1 [(Q0a.mk p0.op p0.clause r1 r2 s64.2 s120.2)]).bind fun x130=>
  some (Ctl.brk ((s120.1++[(Q0a.mk p0.op p0.clause r1 r2 s64.2 s120.2)]),lenZ s120.1.length)))
  else
  some (Ctl.brk (s120.1,r123)))).bind fun (o127:Ctl _ ((List Q0a)×Int))=>match o127 with
  | .ret r=>some r
  | .go _=>none
  | .brk s126=>
  some ((s126.2,s126.1))))))))
def Q3p:Nat→X0→Option (Int)
 | 0,_=>none
 | n+1,p0=>
  ((Q3n p0).bind fun r37=>
  ((forL (fun k63 x64 (s57:Int)=>
  ((Q3p n x64).bind fun r70=>
  some (Ctl.go (wadd .i64 s57 r70)))) 0 r37 1).bind fun (o56:Ctl _ (Int))=>match o56 with
  | .ret r=>some r
  | .go _=>none
  | .brk s67=>
  some (s67)))
def Q14 (n:Nat)(p0:X0):Option ((List Q0a)×Bool):=
  ((Q3p n p0).bind fun r19=>
  (if (ilt 300 r19)=true then
  some (([],false))
  else
  ((Q5i n p0).bind fun r21=>
  (if (!r21)=true then
  some (([],false))
  else
  ((Q58 n p0 []).bind fun r23=>
  some ((r23.2,true)))))))
def Q53 (n:Nat)(p0:(List Q4))(p1:Q7)(p2:(List Q3)):Option (Int×Bool):=
  ((whileL (fun (s160:Int×Int×Int)=>
  (if (ile s160.2.2 2)=true then
  ((((W2 n p0 p1 p2 s160.2.2).bind fun r188=>
  (if (!r188.2)=true then
  some (Ctl.brk (s160.1,s160.2.1))
  else
  ((Q14 n r188.1).bind fun r191=>
  (if (ilt s160.1 0)=true then
  some (Ctl.brk (s160.2.2,lenZ r191.1.length))
  else
  (if (ilt (lenZ r191.1.length) s160.2.1)=true then
  some (Ctl.brk (s160.2.2,lenZ r191.1.length))
  else
  some (Ctl.brk (s160.1,s160.2.1)))))))).bind fun (o185:Ctl _ (Int×Int))=>match o185 with
  | .ret r=>some r
  | .go _=>none
  | .brk s184=>
  some (Ctl.go (s184.1,s184.2,wadd .i64 s160.2.2 1)))
  else
  some (Ctl.brk (s160.1,s160.2.1,s160.2.2)))) n ((-1),0,0)).bind fun (o159:Ctl _ (Int×Int×Int))=>match o159 with
  | .ret r=>some r
  | .go _=>none
  | .brk s170=>
  some ((imax 0 s170.1,ile 0 s170.1)))
def Z02  : Option (Int):=
  some ((-1))
def Q2s (p0:(List Q1))(p1:(List Q1)):Option (Bool):=
  (if (!ieq (lenZ p0.length) (lenZ p1.length))=true then
  some (false)
  else
  ((forL (fun k196 x197 (s190:Unit)=>
  ((idx p1 (k196:Int)).bind fun x224=>
  (if (!ieq x197.var x224.var)=true then
  some (Ctl.ret (false))
  else
  ((Q1o x197.path x224.path).bind fun r226=>
  (if (!r226)=true then
  some (Ctl.ret (false))
  else
  some (Ctl.go ())))))) 0 p0 ()).bind fun (o189:Ctl _ (Unit))=>match o189 with
  | .ret r=>some r
  | .go _=>none
  | .brk s200=>
  some (true)))
def Q6u (p0:Q0a)(p1:Q0a):Option (Bool):=
  (if (!ieq p0.op p1.op)=true then
  some (false)
  else
  (if (!ieq p0.clause p1.clause)=true then
  some (false)
  else
  (if (!ieq p0.else_ p1.else_)=true then
  some (false)
  else
  ((Q2s p0.binds p1.binds).bind fun r67=>
  (if (!r67)=true then
  some (false)
  else
  ((Q1o p0.path p1.path).bind fun r70=>
  (if (!r70)=true then
  some (false)
  else
  (if (!ieq (lenZ p0.edges.length) (lenZ p1.edges.length))=true then
  some (false)
  else
  ((forL (fun k132 x133 (s126:Unit)=>
  ((idx p1.edges (k132:Int)).bind fun x139=>
  (if (!Q8r [ieq x133.ctor x139.ctor,ieq x133.n x139.n,ieq x133.m x139.m,ieq x133.to x139.to])=true then
  some (Ctl.ret (false))
  else
  some (Ctl.go ())))) 0 p0.edges ()).bind fun (o125:Ctl _ (Unit))=>match o125 with
  | .ret r=>some r
  | .go _=>none
  | .brk s136=>
  some (true))))))))))
def Q5w (p0:(List Q1)):Option ((List Q1)):=
  ((forL (fun k60 x61 (s54:(List Q1))=>
  ((app [] x61.path).bind fun x67=>
  ((app s54 [x61]).bind fun x68=>
  some (Ctl.go (s54++[x61]))))) 0 p0 []).bind fun (o53:Ctl _ ((List Q1)))=>match o53 with
  | .ret r=>some r
  | .go _=>none
  | .brk s64=>
  some (s64))
def Q43:Nat→(List Q0a)→X0→Option ((List Q0a)×Int)
 | 0,_,_=>none
 | n+1,p0,p1=>
  ((Q5w p1.binds).bind fun r1=>
  ((app [] p1.path).bind fun x2=>
  ((Z02).bind fun r3=>
  ((forL (fun k75 x76 (s69:(List Q0a)×(List Z11))=>
  ((Q43 n s69.1 x76.tree).bind fun r83=>
  ((app s69.2 [(Z11.mk x76.ctor x76.n x76.m r83.2)]).bind fun x84=>
  some (Ctl.go (r83.1,x84))))) 0 p1.branches (p0,[])).bind fun (o68:Ctl _ ((List Q0a)×(List Z11)))=>match o68 with
  | .ret r=>some r
  | .go _=>none
  | .brk s79=>
  (((if (ilt 0 (lenZ p1.else_.length))=true then
  ((idx p1.else_ 0).bind fun x95=>
  ((Q43 n s79.1 x95).bind fun r96=>
  some (Ctl.brk (r96.1,r96.2))))
  else
  some (Ctl.brk (s79.1,r3)))).bind fun (o91:Ctl _ ((List Q0a)×Int))=>match o91 with
  | .ret r=>some r
  | .go _=>none
  | .brk s90=>
  ((forL (fun k165 x166 (s159:Unit)=>
  ((Q6u x166 (Q0a.mk p1.op p1.clause r1 p1.path s79.2 s90.2)).bind fun r173=>
  (if r173=true then
  some (Ctl.ret ((s90.1,(k165:Int))))
  else
  some (Ctl.go ())))) 0 s90.1 ()).bind fun (o158:Ctl _ (Unit))=>match o158 with
  | .ret r=>some r
  | .go _=>none
  | .brk s169=>
  ((app s90.1 [(Q0a.mk p1.op p1.clause r1 p1.path s79.2 s90.2)]).bind fun x176=>
  some (((s90.1++[(Q0a.mk p1.op p1.clause r1 p1.path s79.2 s90.2)]),lenZ s90.1.length)))))))))
def Q4x (n:Nat)(p0:(List Q4))(p1:Q7)(p2:(List Q3)):Option (Int×Bool):=
  ((whileL (fun (s160:Int×Int×Int)=>
  (if (ile s160.2.2 2)=true then
  ((((Q0g n p0 p1 p2 s160.2.2).bind fun r188=>
  (if (!r188.2)=true then
  some (Ctl.brk (s160.1,s160.2.1))
  else
  ((Q43 n [] r188.1).bind fun r191=>
  (if (ilt s160.1 0)=true then
  some (Ctl.brk (s160.2.2,lenZ r191.1.length))
  else
  (if (ilt (lenZ r191.1.length) s160.2.1)=true then
  some (Ctl.brk (s160.2.2,lenZ r191.1.length))
  else
  some (Ctl.brk (s160.1,s160.2.1)))))))).bind fun (o185:Ctl _ (Int×Int))=>match o185 with
  | .ret r=>some r
  | .go _=>none
  | .brk s184=>
  some (Ctl.go (s184.1,s184.2,wadd .i64 s160.2.2 1)))
  else
  some (Ctl.brk (s160.1,s160.2.1,s160.2.2)))) n ((-1),0,0)).bind fun (o159:Ctl _ (Int×Int×Int))=>match o159 with
  | .ret r=>some r
  | .go _=>none
  | .brk s170=>
  (if (ilt s170.1 0)=true then
  some ((0,false))
  else
  some ((s170.1,true))))
def Q3f (n:Nat)(p0:(List Int)):Option (Bool):=
  (if (ilt 1048576 (lenZ p0.length))=true then
  some (true)
  else
  ((Q5g n p0).bind fun r3=>
  ((Q53 n r3.1 r3.2.1 r3.2.2).bind fun r4=>
  ((Q4x n r3.1 r3.2.1 r3.2.2).bind fun r5=>
  (if (!(r4.2==r5.2))=true then
  (if (r4.2==r5.2)=true then
  some (ieq r4.1 r5.1)
  else
  some (false))
  else
  (if (!ieq r4.1 r5.1)=true then
  (if (r4.2==r5.2)=true then
  some (ieq r4.1 r5.1)
  else
  some (false))
  else
  (if (!r4.2)=true then
  (if (r4.2==r5.2)=true then
  some (ieq r4.1 r5.1)
  else
  some (false))
  else
  ((W2 n r3.1 r3.2.1 r3.2.2 r4.1).bind fun r46=>
  ((Q14 n r46.1).bind fun r47=>
  ((whileL (fun (s213:Int)=>
  (if (ile s213 2)=true then
  ((((W2 n r3.1 r3.2.1 r3.2.2 s213).bind fun r242=>
  ((Q14 n r242.1).bind fun r243=>
  (if r242.2=true then
  (if r243.2=true then
  (if (ilt (lenZ r243.1.length) (lenZ r47.1.length))=true then
  some (Ctl.ret (Ctl.ret (false)))
  else
  some (Ctl.brk ()))
  else
  some (Ctl.brk ()))
  else
  some (Ctl.brk ()))))).bind fun (o239:Ctl _ (Unit))=>match o239 with
  | .ret r=>some r
  | .go _=>none
  | .brk s238=>
  some (Ctl.go (wadd .i64 s213 1)))
  else
  some (Ctl.brk s213))) n 0).bind fun (o212:Ctl _ (Int))=>match o212 with
  | .ret r=>some r
  | .go _=>none
  | .brk s223=>
  (if r46.2=true then
  some (r47.2)
  else
  some (false))))))))))))
end Go.Proofs.YtfhpjeogjcfkaaaGreat
