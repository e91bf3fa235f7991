import Derived.Test.YtfhpjeogjcfkaaaGreatBJMir
set_option linter.unusedSimpArgs false
set_option linter.unusedVariables false
namespace Go.Proofs.YtfhpjeogjcfkaaaGreat
open Go Go.RowKit
def Q49 (n:Nat)(p0:(List Int)):Option ((List Q4)×Q7×(List Q3)×Int×Q2):=
  ((Q1t p0).bind fun r1=>
  ((Q2h n r1).bind fun r2=>
  ((Q3k n r2.2.2.2.2 r2.2.2.1).bind fun r3=>
  ((W4 r3.2 [0,1,2,0,3]).bind fun r4=>
  ((Q1w n r4.2 r2.2.2.2.1).bind fun r5=>
  some ((r2.1,r2.2.1,r3.1,r4.1,r5.1)))))))
def Q0b (p0:(List Z1))(p1:(Z1→Option Bool)):Option (Int):=
  ((forL (fun k68 x69 (s62:Unit)=>
  ((p1 x69).bind fun r76=>
  (if r76=true then
  some (Ctl.ret ((k68:Int)))
  else
  some (Ctl.go ())))) 0 p0 ()).bind fun (o61:Ctl _ (Unit))=>match o61 with
  | .ret r=>some r
  | .go _=>none
  | .brk s72=>
  some ((-1)))
def Q25 (p0:Z1)(q0:Q2):Option (Bool):=
  ((Q3a p0.ctor p0.n p0.m q0).bind fun r1=>
  some (r1))
def Q7e (n:Nat)(p0:X0)(p1:(List Q3))(p2:Q2):Option (Int×(List X3)×Int):=
  ((whileL (fun (s44:X0×Int)=>
  (if (ieq s44.1.op 2)=true then
  ((Q6k p2 s44.1.path).bind fun r56=>
  ((Q0b s44.1.branches (fun a0=>Q25 a0 r56)).bind fun r57=>
  (if (ilt r57 0)=true then
  some (Ctl.ret (((-1),[],wadd .i64 s44.2 1)))
  else
  ((idx s44.1.branches r57).bind fun x60=>
  some (Ctl.go (x60.tree,wadd .i64 s44.2 1))))))
  else
  (if (ieq s44.1.op 1)=true then
  ((Q6m n s44.1.binds p2).bind fun r64=>
  ((idx p1 s44.1.clause).bind fun x69=>
  ((J2 x69.guard r64).bind fun r70=>
  (if r70=true then
  some (Ctl.ret ((s44.1.clause,r64,s44.2)))
  else
  ((idx s44.1.else_ 0).bind fun x72=>
  some (Ctl.go (x72,s44.2)))))))
  else
  some (Ctl.ret (((-1),[],s44.2)))))) n (p0,0)).bind fun (o43:Ctl _ (X0×Int))=>match o43 with
  | .ret r=>some r
  | .go _=>none
  | .brk s54=>
  none)
def Q9i (n:Nat)(p0:(List Q4))(p1:Q7)(p2:(List Q3))(p3:Int)(p4:Q2):Option (Int×(List X3)×Int):=
  ((W2 n p0 p1 p2 p3).bind fun r1=>
  (if (!r1.2)=true then
  some (((-1),[],(-1)))
  else
  ((Q2j n p0 p1 p4).bind fun r21=>
  (if (!r21)=true then
  some (((-1),[],(-1)))
  else
  ((Q7e n r1.1 p2 p4).bind fun r23=>
  some ((r23.1,r23.2.1,r23.2.2)))))))
def Q3r (n:Nat)(p0:(List Int)):Option ((List Q4)×Q7×(List Q3)×Int×Q2):=
  ((Q49 n p0).bind fun r1=>
  some ((r1.1,r1.2.1,r1.2.2.1,r1.2.2.2.1,r1.2.2.2.2)))
def Q3t (p0:(List (List Int)))(p1:((List Int)→Option Bool)):Option (Int):=
  ((forL (fun k68 x69 (s62:Unit)=>
  ((p1 x69).bind fun r76=>
  (if r76=true then
  some (Ctl.ret ((k68:Int)))
  else
  some (Ctl.go ())))) 0 p0 ()).bind fun (o61:Ctl _ (Unit))=>match o61 with
  | .ret r=>some r
  | .go _=>none
  | .brk s72=>
  some ((-1)))
def Q0c (p0:(List (List Int)))(p1:((List Int)→Option Bool)):Option (Bool):=
  ((Q3t p0 p1).bind fun r1=>
  some (ile 0 r1))
def Q7o (p0:(List Int))(q0:(List Int)):Option (Bool):=
  ((J3 p0 q0).bind fun r1=>
  some (r1))
def Q9h (p0:(List (List Int)))(p1:(List Int)):Option ((List (List Int))):=
  ((Q0c p0 (fun a0=>Q7o a0 p1)).bind fun r4=>
  (if r4=true then
  some (p0)
  else
  ((X7 p1).bind fun r6=>
  ((app p0 [r6]).bind fun x7=>
  some ((p0++[r6]))))))
def Q24 (p0:(List Int))(q0:(List (List Int))):Option ((List (List Int))):=
  ((Q9h q0 p0).bind fun r1=>
  some (r1))
def Q59 (p0:Q2)(p1:(List Int)):Option (Q2×Bool):=
  ((forL (fun k70 x71 (s64:Q2)=>
  (if (ieq s64.ctor (-2))=true then
  some (Ctl.ret (((Q2.mk 0 0 []),false)))
  else
  ((idx s64.kids x71).bind fun x80=>
  some (Ctl.go x80)))) 0 p1 p0).bind fun (o63:Ctl _ (Q2))=>match o63 with
  | .ret r=>some r
  | .go _=>none
  | .brk s74=>
  some ((s74,!ieq s74.ctor (-2))))
def Q41 (p0:Z1)(q0:Q2):Option (Bool):=
  ((Q3a p0.ctor p0.n p0.m q0).bind fun r1=>
  some (r1))
def Q11 (p0:(List Q1))(p1:(Q1→Option Bool)):Option (Int):=
  ((forL (fun k68 x69 (s62:Unit)=>
  ((p1 x69).bind fun r76=>
  (if r76=true then
  some (Ctl.ret ((k68:Int)))
  else
  some (Ctl.go ())))) 0 p0 ()).bind fun (o61:Ctl _ (Unit))=>match o61 with
  | .ret r=>some r
  | .go _=>none
  | .brk s72=>
  some ((-1)))
def Q6n (p0:Q1)(q0:Int):Option (Bool):=
  some (ieq p0.var q0)
def Q72 (p0:(List Q1))(p1:Int):Option ((List Int)):=
  ((Q11 p0 (fun a0=>Q6n a0 p1)).bind fun r1=>
  ((idx p0 r1).bind fun x2=>
  some (x2.path)))
def Q7f (n:Nat)(p0:X0)(p1:(List Q3))(p2:Q2)(p3:((List Int)→Option Unit)):Option (Int×(List Int)×Bool):=
  ((whileL (fun (s81:X0)=>
  (if (ieq s81.op 2)=true then
  ((p3 s81.path).bind fun r93=>
  ((Q59 p2 s81.path).bind fun r94=>
  (if (!r94.2)=true then
  ((X7 s81.path).bind fun r99=>
  some (Ctl.ret (((-1),r99,false))))
  else
  ((Q0b s81.branches (fun a0=>Q41 a0 r94.1)).bind fun r101=>
  (if (ilt r101 0)=true then
  some (Ctl.ret (((-1),[],true)))
  else
  ((idx s81.branches r101).bind fun x104=>
  some (Ctl.go x104.tree)))))))
  else
  (if (ieq s81.op 1)=true then
  ((idx p1 s81.clause).bind fun x109=>
  (if (ieq x109.guard.op 0)=true then
  some (Ctl.ret ((s81.clause,[],true)))
  else
  ((Q72 s81.binds x109.guard.var).bind fun r112=>
  ((p3 r112).bind fun r113=>
  ((Q59 p2 r112).bind fun r114=>
  (if (!r114.2)=true then
  ((X7 r112).bind fun r119=>
  some (Ctl.ret (((-1),r119,false))))
  else
  ((J2 x109.guard [(X3.mk x109.guard.var r114.1)]).bind fun r124=>
  (if r124=true then
  some (Ctl.ret ((s81.clause,[],true)))
  else
  ((idx s81.else_ 0).bind fun x126=>
  some (Ctl.go x126))))))))))
  else
  some (Ctl.ret (((-1),[],true)))))) n p0).bind fun (o80:Ctl _ (X0))=>match o80 with
  | .ret r=>some r
  | .go _=>none
  | .brk s91=>
  none)
def Q0i (n:Nat)(p0:X0)(p1:(List Q3))(p2:Q2)(p400:(List (List Int))):Option (Int×(List Int)×Bool×(List (List Int))):=
  ((whileL (fun (s58:(List (List Int))×X0)=>
  (if (ieq s58.2.op 2)=true then
  ((Q24 s58.2.path s58.1).bind fun r68=>
  ((Q59 p2 s58.2.path).bind fun r69=>
  (if (!r69.2)=true then
  ((X7 s58.2.path).bind fun r73=>
  some (Ctl.ret (((-1),r73,false,r68))))
  else
  ((Q0b s58.2.branches (fun a0=>Q41 a0 r69.1)).bind fun r74=>
  (if (ilt r74 0)=true then
  some (Ctl.ret (((-1),[],true,r68)))
  else
  ((idx s58.2.branches r74).bind fun x77=>
  some (Ctl.go (r68,x77.tree))))))))
  else
  (if (ieq s58.2.op 1)=true then
  ((idx p1 s58.2.clause).bind fun x79=>
  (if (ieq x79.guard.op 0)=true then
  some (Ctl.ret ((s58.2.clause,[],true,s58.1)))
  else
  ((Q72 s58.2.binds x79.guard.var).bind fun r82=>
  ((Q24 r82 s58.1).bind fun r83=>
  ((Q59 p2 r82).bind fun r84=>
  (if (!r84.2)=true then
  ((X7 r82).bind fun r88=>
  some (Ctl.ret (((-1),r88,false,r83))))
  else
  ((J2 x79.guard [(X3.mk x79.guard.var r84.1)]).bind fun r91=>
  (if r91=true then
  some (Ctl.ret ((s58.2.clause,[],true,r83)))
  else
  ((idx s58.2.else_ 0).bind fun x93=>
  some (Ctl.go (r83,x93)))))))))))
  else
  some (Ctl.ret (((-1),[],true,s58.1)))))) n (p400,p0)).bind fun (o57:Ctl _ ((List (List Int))×X0))=>match o57 with
  | .ret r=>some r
  | .go _=>none
  | .brk s66=>
  none)
def Q67 (n:Nat)(p0:(List Q4))(p1:Q7)(p2:(List Q3))(p3:Int)(p4:Q2):Option ((List (List Int))):=
  ((W2 n p0 p1 p2 p3).bind fun r1=>
  (if (!r1.2)=true then
  some ([])
  else
  ((Q2j n p0 p1 p4).bind fun r16=>
  (if (!r16)=true then
  some ([])
  else
  ((Q0i n r1.1 p2 p4 []).bind fun r18=>
  some (r18.2.2.2))))))
def Q6b (p0:(List Z1))(p1:Q2):Option (X0×Bool):=
  ((forL (fun k168 x169 (s162:Unit)=>
  (((if (ieq x169.ctor p1.ctor)=true then
  (if (!ieq p1.ctor (-1))=true then
  some (Ctl.ret (Ctl.ret ((x169.tree,true))))
  else
  (if (ile x169.n p1.n)=true then
  (if (ile p1.n x169.m)=true then
  some (Ctl.ret (Ctl.ret ((x169.tree,true))))
  else
  some (Ctl.brk ()))
  else
  some (Ctl.brk ())))
  else
  some (Ctl.brk ()))).bind fun (o185:Ctl _ (Unit))=>match o185 with
  | .ret r=>some r
  | .go _=>none
  | .brk s184=>
  some (Ctl.go ()))) 0 p0 ()).bind fun (o161:Ctl _ (Unit))=>match o161 with
  | .ret r=>some r
  | .go _=>none
  | .brk s172=>
  some (((X0.mk 0 0 [] [] [] []),false)))
def Q1x (p0:Q27)(p1:(List Q1)):Option ((List Int)×Bool):=
  ((forL (fun k82 x83 (s76:Unit)=>
  (if (!ieq p0.op 0)=true then
  (if (ieq x83.var p0.var)=true then
  some (Ctl.ret ((x83.path,true)))
  else
  some (Ctl.go ()))
  else
  some (Ctl.brk ()))) 0 p1 ()).bind fun (o75:Ctl _ (Unit))=>match o75 with
  | .ret r=>some r
  | .go _=>none
  | .brk s86=>
  some (([],false)))
def Q6e (p0:Q27)(p1:Int):Option (Bool):=
  (if (ieq p0.op 1)=true then
  (if (ilt p1 p0.n)=true then
  some (true)
  else
  (if (ieq p0.op 2)=true then
  some (ieq p1 p0.n)
  else
  some (false)))
  else
  (if (ieq p0.op 2)=true then
  some (ieq p1 p0.n)
  else
  some (false)))
def Q6f (p0:Q2)(p1:(List Int)):Option (Q2):=
  ((forL (fun k84 x85 (s78:Q2)=>
  (if (!ieq s78.ctor (-2))=true then
  ((idx s78.kids x85).bind fun x92=>
  some (Ctl.go x92))
  else
  some (Ctl.brk s78))) 0 p1 p0).bind fun (o77:Ctl _ (Q2))=>match o77 with
  | .ret r=>some r
  | .go _=>none
  | .brk s88=>
  some (s88))
def Q8l (n:Nat)(p0:(List Q3))(p1:X0)(p2:Q2):Option (Int×(List Int)×Bool×(List (List Int))):=
  ((whileL (fun (s82:X0×(List (List Int)))=>
  (if (!ieq s82.1.op 0)=true then
  (if (ieq s82.1.op 2)=true then
  ((Q6f p2 s82.1.path).bind fun r106=>
  (if (ieq r106.ctor (-2))=true then
  some (Ctl.ret (((-1),s82.1.path,true,s82.2)))
  else
  ((app s82.2 [s82.1.path]).bind fun x109=>
  ((Q6b s82.1.branches r106).bind fun r110=>
  (if (!r110.2)=true then
  some (Ctl.ret (((-1),[],false,x109)))
  else
  some (Ctl.go (r110.1,x109)))))))
  else
  ((idx p0 s82.1.clause).bind fun x115=>
  ((Q1x x115.guard s82.1.binds).bind fun r116=>
  (if (!r116.2)=true then
  some (Ctl.ret ((s82.1.clause,[],false,s82.2)))
  else
  ((Q6f p2 r116.1).bind fun r119=>
  (if (ieq r119.ctor (-2))=true then
  some (Ctl.ret (((-1),r116.1,true,s82.2)))
  else
  ((app s82.2 [r116.1]).bind fun x122=>
  ((Q6e x115.guard r119.n).bind fun r126=>
  (if r126=true then
  some (Ctl.ret ((s82.1.clause,[],false,x122)))
  else
  ((idx s82.1.else_ 0).bind fun x128=>
  some (Ctl.go (x128,x122))))))))))))
  else
  some (Ctl.brk (s82.1,s82.2)))) n (p1,[])).bind fun (o81:Ctl _ (X0×(List (List Int))))=>match o81 with
  | .ret r=>some r
  | .go _=>none
  | .brk s92=>
  some (((-1),[],false,s92.2)))
def Q60 (p0:(List (List Int)))(p1:(List Int)):Option (Bool):=
  ((forL (fun k68 x69 (s62:Unit)=>
  ((Q1o x69 p1).bind fun r76=>
  (if r76=true then
  some (Ctl.ret (true))
  else
  some (Ctl.go ())))) 0 p0 ()).bind fun (o61:Ctl _ (Unit))=>match o61 with
  | .ret r=>some r
  | .go _=>none
  | .brk s72=>
  some (false))
def Q61 (p0:(List (List Int))):Option ((List (List Int))):=
  ((forL (fun k110 x111 (s104:(List (List Int)))=>
  ((((Q60 s104 x111).bind fun r124=>
  (if (!r124)=true then
  ((app [] x111).bind fun x126=>
  ((app s104 [x111]).bind fun x127=>
  some (Ctl.brk (s104++[x111]))))
  else
  some (Ctl.brk s104)))).bind fun (o121:Ctl _ ((List (List Int))))=>match o121 with
  | .ret r=>some r
  | .go _=>none
  | .brk s120=>
  some (Ctl.go s120))) 0 p0 []).bind fun (o103:Ctl _ ((List (List Int))))=>match o103 with
  | .ret r=>some r
  | .go _=>none
  | .brk s114=>
  some (s114))
def Q64 (n:Nat)(p0:(List Q4))(p1:Q7)(p2:(List Q3))(p3:Int)(p4:Q2):Option ((List (List Int))):=
  ((Q0g n p0 p1 p2 p3).bind fun r1=>
  (if (!r1.2)=true then
  some ([])
  else
  ((Q98 n p0 p1 p4).bind fun r21=>
  (if (!r21)=true then
  some ([])
  else
  ((Q8l n p2 r1.1 p4).bind fun r23=>
  ((Q61 r23.2.2.2).bind fun r24=>
  some (r24)))))))
def Q70 (p0:(List Int))(p1:(List Int)):Option (Bool):=
  (if (!ieq (lenZ p0.length) (lenZ p1.length))=true then
  some (false)
  else
  ((forL (fun k60 x61 (s54:Unit)=>
  ((idx p1 (k60:Int)).bind fun x67=>
  (if (!ieq x61 x67)=true then
  some (Ctl.ret (false))
  else
  some (Ctl.go ())))) 0 p0 ()).bind fun (o53:Ctl _ (Unit))=>match o53 with
  | .ret r=>some r
  | .go _=>none
  | .brk s64=>
  some (true)))
def Q38 (p0:(List (List Int)))(p1:(List (List Int))):Option (Bool):=
  (if (!ieq (lenZ p0.length) (lenZ p1.length))=true then
  some (false)
  else
  ((forL (fun k80 x81 (s74:Unit)=>
  ((idx p1 (k80:Int)).bind fun x89=>
  ((Q70 x81 x89).bind fun r90=>
  (if (!r90)=true then
  some (Ctl.ret (false))
  else
  some (Ctl.go ()))))) 0 p0 ()).bind fun (o73:Ctl _ (Unit))=>match o73 with
  | .ret r=>some r
  | .go _=>none
  | .brk s84=>
  some (true)))
def Q1l (n:Nat)(p0:(List Q4))(p1:Q7)(p2:Q2):Option (Bool):=
  ((Q2x n p0 p1).bind fun r7=>
  (if r7=true then
  ((Q0p n p0 p1 p2 1 true 0).bind fun r9=>
  some (r9.1))
  else
  some (false)))
def Q7n (p0:(List Int))(q0:(List Int)):Option (Bool):=
  ((J3 p0 q0).bind fun r1=>
  some (r1))
def Q9g (p0:(List (List Int)))(p1:(List Int)):Option (Bool):=
  ((Q0c p0 (fun a0=>Q7n a0 p1)).bind fun r1=>
  some (r1))
def Z2l  : Option (Q2):=
  some ((Q2.mk (-2) 0 []))
def Q7v:Nat→Q2→(List Int)→(List (List Int))→Option (Q2)
 | 0,_,_,_=>none
 | n+1,p0,p1,p2=>
  ((Q9g p2 p1).bind fun r6=>
  (if (!r6)=true then
  ((Z2l).bind fun r8=>
  some (r8))
  else
  ((forL (fun k109 x110 (s103:(List Q2))=>
  ((X7 p1).bind fun r120=>
  ((app r120 [(k109:Int)]).bind fun x121=>
  ((Q7v n x110 x121 p2).bind fun r122=>
  ((app s103 [r122]).bind fun x123=>
  some (Ctl.go x123)))))) 0 p0.kids []).bind fun (o102:Ctl _ ((List Q2)))=>match o102 with
  | .ret r=>some r
  | .go _=>none
  | .brk s113=>
  some ((Q2.mk p0.ctor p0.n s113)))))
def Q7p (n:Nat)(p0:(List Q4))(p1:Q7)(p2:Q2)(p3:(List (List Int))):Option (Q2×Bool):=
  ((Q1l n p0 p1 p2).bind fun r4=>
  (if (!r4)=true then
  some (((Q2.mk 0 0 []),false))
  else
  ((Q7v n p2 [] p3).bind fun r6=>
  some ((r6,true)))))
def Q5j (p0:(List Int)):Option (Unit):=
  some (())
def Q74 (n:Nat)(p0:(List Q4))(p1:Q7)(p2:(List Q3))(p3:Int)(p4:Q2):Option (Int×(List Int)×Bool):=
  ((W2 n p0 p1 p2 p3).bind fun r1=>
  (if (!r1.2)=true then
  some (((-1),[],false))
  else
  ((Q1l n p0 p1 p4).bind fun r21=>
  (if (!r21)=true then
  some (((-1),[],false))
  else
  ((Q7f n r1.1 p2 p4 (fun a0=>Q5j a0)).bind fun r23=>
  some ((r23.1,r23.2.1,r23.2.2)))))))
def Q23 (n:Nat)(p0:(List Int)):Option (Bool):=
  (if (ilt 1048576 (lenZ p0.length))=true then
  some (true)
  else
  ((Q3r n p0).bind fun r3=>
  ((Q67 n r3.1 r3.2.1 r3.2.2.1 r3.2.2.2.1 r3.2.2.2.2).bind fun r4=>
  ((Q64 n r3.1 r3.2.1 r3.2.2.1 r3.2.2.2.1 r3.2.2.2.2).bind fun r5=>
  ((Q9i n r3.1 r3.2.1 r3.2.2.1 r3.2.2.2.1 r3.2.2.2.2).bind fun r6=>
  ((Q38 r4 r5).bind fun r78=>
  (if (!r78)=true then
  ((Q38 r4 r5).bind fun r84=>
  (if r84=true then
  some (ieq (lenZ r4.length) 0)
  else
  some (false)))
  else
  (if (ilt r6.2.2 0)=true then
  ((Q38 r4 r5).bind fun r94=>
  (if r94=true then
  some (ieq (lenZ r4.length) 0)
  else
  some (false)))
  else
  ((forL (fun k601 x602 (s595:(List (List Int)))=>
  ((whileL (fun (s653:(List (List Int))×Int)=>
  (if (ile s653.2 (lenZ x602.length))=true then
  ((Q8w x602 s653.2).bind fun x668=>
  ((app s653.1 [x668]).bind fun x669=>
  some (Ctl.go (x669,wadd .i64 s653.2 1))))
  else
  some (Ctl.brk (s653.1,s653.2)))) n (s595,0)).bind fun (o652:Ctl _ ((List (List Int))×Int))=>match o652 with
  | .ret r=>some r
  | .go _=>none
  | .brk s663=>
  some (Ctl.go s663.1))) 0 r4 []).bind fun (o594:Ctl _ ((List (List Int))))=>match o594 with
  | .ret r=>some r
  | .go _=>none
  | .brk s605=>
  ((Q7p n r3.1 r3.2.1 r3.2.2.2.2 s605).bind fun r670=>
  ((Q74 n r3.1 r3.2.1 r3.2.2.1 r3.2.2.2.1 r670.1).bind fun r671=>
  (if r670.2=true then
  (if r671.2.2=true then
  (if (ieq r671.1 r6.1)=true then
  some (ile r6.2.2 (lenZ r4.length))
  else
  some (false))
  else
  some (false))
  else
  some (false)))))))))))))
end Go.Proofs.YtfhpjeogjcfkaaaGreat
