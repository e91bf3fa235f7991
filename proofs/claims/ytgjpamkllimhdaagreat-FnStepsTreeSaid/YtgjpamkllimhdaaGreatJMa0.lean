import Derived.Test.YtgjpamkllimhdaaGreatJMir
set_option linter.unusedSimpArgs false
set_option linter.unusedVariables false
namespace Go.Proofs.YtgjpamkllimhdaaGreat
open Go Go.RowKit
def Q26:Nat→Z9→Q1→Option (Q1×Z9)
 | 0,_,_=>none
 | n+1,p0,p1=>
  ((app [] p1.kids).bind fun x1=>
  ((((Z7 p0 24).bind fun r24=>
  (if (ieq r24.1 0)=true then
  ((X8 r24.2 [0,1,(-1),9,(-2)]).bind fun r26=>
  some (Ctl.brk (r26.2,r26.1,p1.n,p1.kids)))
  else
  (if (ieq r24.1 1)=true then
  ((X8 r24.2 [10,(-1),1]).bind fun r29=>
  some (Ctl.brk (r29.2,p1.ctor,r29.1,p1.kids)))
  else
  (if (ieq r24.1 2)=true then
  ((app p1.kids [(Q1.mk (-1) 0 [])]).bind fun x32=>
  some (Ctl.brk (r24.2,p1.ctor,p1.n,(p1.kids++[(Q1.mk (-1) 0 [])]))))
  else
  (if (ieq r24.1 3)=true then
  (if (ilt 0 (lenZ p1.kids.length))=true then
  ((idx p1.kids 0).bind fun x35=>
  ((Q26 n r24.2 x35).bind fun r36=>
  ((Q26 n r36.2 r36.1).bind fun r37=>
  ((setI p1.kids 0 r37.1).bind fun x38=>
  some (Ctl.brk (r37.2,p1.ctor,p1.n,x38))))))
  else
  some (Ctl.brk (r24.2,p1.ctor,p1.n,p1.kids)))
  else
  some (Ctl.brk (r24.2,p1.ctor,p1.n,p1.kids)))))))).bind fun (o21:Ctl _ (Z9×Int×Int×(List Q1)))=>match o21 with
  | .ret r=>some r
  | .go _=>none
  | .brk s20=>
  some (((Q1.mk s20.2.1 s20.2.2.1 s20.2.2.2),s20.1))))
def Q27 (n:Nat)(p0:(List Int)):Option ((List Q4)×Q6×(List Q3)×Q1):=
  ((Q1h p0).bind fun r1=>
  ((Q2p n r1).bind fun r2=>
  ((Q4i n r2.2.2.2.2 r2.2.2.1).bind fun r3=>
  ((Q26 n r3.2 r2.2.2.2.1).bind fun r4=>
  some ((r2.1,r2.2.1,r3.1,r4.1))))))
def Q38 (n:Nat)(p0:(List Int)):Option ((List Q4)×Q6×(List Q3)×Q1):=
  ((Q27 n p0).bind fun r1=>
  some ((r1.1,r1.2.1,r1.2.2.1,r1.2.2.2)))
def Q2f:Nat→(List Q4)→Q6→Q1→Int→Bool→Int→Option (Bool×Int)
 | 0,_,_,_,_,_,_=>none
 | n+1,p0,p1,p2,p3,p4,p5=>
  (if (ilt 60 (wadd .i64 p5 1))=true then
  some ((false,wadd .i64 p5 1))
  else
  (if (ilt 10 p3)=true then
  some ((false,wadd .i64 p5 1))
  else
  (((if p4=true then
  (if (ieq p2.ctor (-2))=true then
  (if (ieq p2.n 0)=true then
  some (Ctl.ret ((ieq (lenZ p2.kids.length) 0,wadd .i64 p5 1)))
  else
  some (Ctl.ret ((false,wadd .i64 p5 1))))
  else
  (if (ieq p1.data (-1))=true then
  (if (ieq p2.ctor (-1))=true then
  ((J0 p2.n 0 9).bind fun r208=>
  (if r208=true then
  some (Ctl.ret ((ieq (lenZ p2.kids.length) 0,wadd .i64 p5 1)))
  else
  some (Ctl.ret ((false,wadd .i64 p5 1)))))
  else
  some (Ctl.ret ((false,wadd .i64 p5 1))))
  else
  (if (!ieq p2.n 0)=true then
  some (Ctl.ret ((false,wadd .i64 p5 1)))
  else
  ((Q14 p0 p1).bind fun r224=>
  ((Q0c r224 p2.ctor).bind fun r225=>
  (if (!r225)=true then
  some (Ctl.ret ((false,wadd .i64 p5 1)))
  else
  some (Ctl.brk ())))))))
  else
  (if (ieq p1.data (-1))=true then
  (if (ieq p2.ctor (-1))=true then
  ((J0 p2.n 0 9).bind fun r236=>
  (if r236=true then
  some (Ctl.ret ((ieq (lenZ p2.kids.length) 0,wadd .i64 p5 1)))
  else
  some (Ctl.ret ((false,wadd .i64 p5 1)))))
  else
  some (Ctl.ret ((false,wadd .i64 p5 1))))
  else
  (if (!ieq p2.n 0)=true then
  some (Ctl.ret ((false,wadd .i64 p5 1)))
  else
  ((Q14 p0 p1).bind fun r252=>
  ((Q0c r252 p2.ctor).bind fun r253=>
  (if (!r253)=true then
  some (Ctl.ret ((false,wadd .i64 p5 1)))
  else
  some (Ctl.brk ())))))))).bind fun (o133:Ctl _ (Unit))=>match o133 with
  | .ret r=>some r
  | .go _=>none
  | .brk s132=>
  ((Q15 p0 p1 p2.ctor).bind fun r257=>
  (if (!ieq (lenZ r257.length) (lenZ p2.kids.length))=true then
  some ((false,wadd .i64 p5 1))
  else
  ((forL (fun k339 x340 (s333:Int)=>
  ((idx r257 (k339:Int)).bind fun x348=>
  ((Q2f n p0 x348 x340 (wadd .i64 p3 1) p4 s333).bind fun r349=>
  (if (!r349.1)=true then
  some (Ctl.ret ((false,r349.2)))
  else
  some (Ctl.go r349.2))))) 0 p2.kids (wadd .i64 p5 1)).bind fun (o332:Ctl _ (Int))=>match o332 with
  | .ret r=>some r
  | .go _=>none
  | .brk s343=>
  some ((true,s343))))))))
def Q2r (n:Nat)(p0:(List Q4))(p1:Q6)(p2:Q1):Option (Bool):=
  ((Q2f n p0 p1 p2 1 false 0).bind fun r1=>
  some (r1.1))
def Q3a (p0:(List (List Int)))(p1:((List Int)→Option Bool)):Option (Int):=
  ((forL (fun k68 x69 (s62:Unit)=>
  ((p1 x69).bind fun r76=>
  (if r76=true then
  some (Ctl.ret ((k68:Int)))
  else
  some (Ctl.go ())))) 0 p0 ()).bind fun (o61:Ctl _ (Unit))=>match o61 with
  | .ret r=>some r
  | .go _=>none
  | .brk s72=>
  some ((-1)))
def Q0k (p0:(List (List Int)))(p1:((List Int)→Option Bool)):Option (Bool):=
  ((Q3a p0 p1).bind fun r1=>
  some (ile 0 r1))
def Q2b (p0:(List Int))(p1:(List Int)):Option (Bool):=
  (if (!ieq (lenZ p0.length) (lenZ p1.length))=true then
  some (false)
  else
  ((forL (fun k60 x61 (s54:Unit)=>
  ((idx p1 (k60:Int)).bind fun x67=>
  (if (!ieq x61 x67)=true then
  some (Ctl.ret (false))
  else
  some (Ctl.go ())))) 0 p0 ()).bind fun (o53:Ctl _ (Unit))=>match o53 with
  | .ret r=>some r
  | .go _=>none
  | .brk s64=>
  some (true)))
def Q6s (p0:(List Int))(q0:(List Int)):Option (Bool):=
  ((Q2b p0 q0).bind fun r1=>
  some (r1))
def Q6l (p0:(List (List Int)))(p1:(List Int)):Option ((List (List Int))):=
  ((Q0k p0 (fun a0=>Q6s a0 p1)).bind fun r4=>
  (if r4=true then
  some (p0)
  else
  ((V8 p1).bind fun r6=>
  ((app p0 [r6]).bind fun x7=>
  some ((p0++[r6]))))))
def Q4e (p0:X0)(q0:(List (List Int))):Option ((List (List Int))):=
  (if (ieq p0.op 1)=true then
  ((Q6l q0 p0.path).bind fun r2=>
  some (r2))
  else
  some (q0))
def J4 (n:Nat)(p0:(List X0))(p1:(List Q3))(p2:Q1)(p400:(List (List Int))):Option (Int×(List W9)×Int×(List (List Int))):=
  ((whileL (fun (s67:(List (List Int))×Int×Int)=>
  ((idx p0 s67.2.2).bind fun x76=>
  (if (ieq x76.op 3)=true then
  some (Ctl.ret (((-1),[],s67.2.1,s67.1)))
  else
  ((Q4e x76 s67.1).bind fun r79=>
  (if (ieq x76.op 1)=true then
  ((((Q55 p2 x76.path).bind fun r97=>
  ((Q2t x76.ctor x76.n x76.m r97).bind fun r98=>
  (if (!r98)=true then
  some (Ctl.brk x76.to)
  else
  some (Ctl.brk (wadd .i64 s67.2.2 1)))))).bind fun (o95:Ctl _ (Int))=>match o95 with
  | .ret r=>some r
  | .go _=>none
  | .brk s94=>
  some (Ctl.go (r79,wadd .i64 s67.2.1 1,s94)))
  else
  ((Q4w n x76.binds p2).bind fun r100=>
  ((idx p1 x76.clause).bind fun x104=>
  ((Q0a x104.guard r100).bind fun r105=>
  (if r105=true then
  some (Ctl.ret ((x76.clause,r100,s67.2.1,r79)))
  else
  some (Ctl.go (r79,s67.2.1,x76.to))))))))))) n (p400,0,0)).bind fun (o66:Ctl _ ((List (List Int))×Int×Int))=>match o66 with
  | .ret r=>some r
  | .go _=>none
  | .brk s75=>
  none)
def Q2e (n:Nat)(p0:(List Q4))(p1:Q6)(p2:(List Q3))(p3:Q1):Option ((List (List Int))):=
  ((Q1b n p0 p1 p2).bind fun r1=>
  (if (!r1.2)=true then
  some ([])
  else
  ((Q2r n p0 p1 p3).bind fun r16=>
  (if (!r16)=true then
  some ([])
  else
  ((J4 n r1.1 p2 p3 []).bind fun r18=>
  some (r18.2.2.2))))))
def Q1t (p0:(List Int))(p1:(List Int)):Option (Bool):=
  (if (!ieq (lenZ p0.length) (lenZ p1.length))=true then
  some (false)
  else
  ((forL (fun k60 x61 (s54:Unit)=>
  ((idx p1 (k60:Int)).bind fun x67=>
  (if (!ieq x61 x67)=true then
  some (Ctl.ret (false))
  else
  some (Ctl.go ())))) 0 p0 ()).bind fun (o53:Ctl _ (Unit))=>match o53 with
  | .ret r=>some r
  | .go _=>none
  | .brk s64=>
  some (true)))
def Q3o:Nat→(List Q4)→Q6→Q1→Int→Option (Bool)
 | 0,_,_,_,_=>none
 | n+1,p0,p1,p2,p3=>
  (if (ilt p3 1)=true then
  some (false)
  else
  (if (ieq p1.data (-1))=true then
  (if (ieq p2.ctor (-1))=true then
  (if (ile 0 p2.n)=true then
  (if (ile p2.n 9)=true then
  some (ieq (lenZ p2.kids.length) 0)
  else
  some (false))
  else
  some (false))
  else
  some (false))
  else
  (if (!ieq p2.n 0)=true then
  some (false)
  else
  ((Q0w p0 p1).bind fun r46=>
  ((Q5s r46 p2.ctor).bind fun r47=>
  (if (!r47)=true then
  some (false)
  else
  ((Q0m p0 p1 p2.ctor).bind fun r49=>
  (if (!ieq (lenZ p2.kids.length) (lenZ r49.length))=true then
  some (false)
  else
  ((forL (fun k129 x130 (s123:Unit)=>
  ((idx p2.kids (k129:Int)).bind fun x138=>
  ((Q3o n p0 x130 x138 (wsub .i64 p3 1)).bind fun r139=>
  (if (!r139)=true then
  some (Ctl.ret (false))
  else
  some (Ctl.go ()))))) 0 r49 ()).bind fun (o122:Ctl _ (Unit))=>match o122 with
  | .ret r=>some r
  | .go _=>none
  | .brk s133=>
  some (true))))))))))
def Q47:Nat→Q1→Int→Option (Int)
 | 0,_,_=>none
 | n+1,p0,p1=>
  ((forL (fun k94 x95 (s88:Int)=>
  (if (ile s88 p1)=true then
  ((Q47 n x95 (wsub .i64 p1 s88)).bind fun r103=>
  some (Ctl.go (wadd .i64 s88 r103)))
  else
  some (Ctl.brk s88))) 0 p0.kids 1).bind fun (o87:Ctl _ (Int))=>match o87 with
  | .ret r=>some r
  | .go _=>none
  | .brk s98=>
  some (s98))
def Q9a (n:Nat)(p0:(List Q4))(p1:Q6)(p2:Q1):Option (Bool):=
  ((Q3o n p0 p1 p2 10).bind fun r7=>
  (if r7=true then
  ((Q47 n p2 60).bind fun r9=>
  some (ile r9 60))
  else
  some (false)))
def Q2a (n:Nat)(p0:(List Q4))(p1:Q6)(p2:(List Q3))(p3:Q1):Option ((List (List Int))):=
  ((Q1w n p0 p1 p2).bind fun r1=>
  (if (!r1.2)=true then
  some ([])
  else
  ((Q9a n p0 p1 p3).bind fun r21=>
  (if (!r21)=true then
  some ([])
  else
  ((Q4u n p2 r1.1 p3).bind fun r23=>
  ((forL (fun k1129 x1130 (s1123:(List (List Int)))=>
  ((((forL (fun k1310 x1311 (s1304:Bool)=>
  (((if s1304=true then
  some (Ctl.brk true)
  else
  ((Q1t x1311 x1130).bind fun r1323=>
  some (Ctl.brk r1323)))).bind fun (o1319:Ctl _ (Bool))=>match o1319 with
  | .ret r=>some r
  | .go _=>none
  | .brk s1318=>
  some (Ctl.go s1318))) 0 s1123 false).bind fun (o1303:Ctl _ (Bool))=>match o1303 with
  | .ret r=>some r
  | .go _=>none
  | .brk s1314=>
  (if (!s1314)=true then
  ((app [] x1130).bind fun x1326=>
  ((app s1123 [x1130]).bind fun x1327=>
  some (Ctl.brk (s1123++[x1130]))))
  else
  some (Ctl.brk s1123)))).bind fun (o1230:Ctl _ ((List (List Int))))=>match o1230 with
  | .ret r=>some r
  | .go _=>none
  | .brk s1229=>
  some (Ctl.go s1229))) 0 r23.2.2 []).bind fun (o1122:Ctl _ ((List (List Int))))=>match o1122 with
  | .ret r=>some r
  | .go _=>none
  | .brk s1133=>
  some (s1133)))))))
def Q54 (p0:(List Int))(p1:(List Int)):Option (Bool):=
  (if (!ieq (lenZ p0.length) (lenZ p1.length))=true then
  some (false)
  else
  ((forL (fun k60 x61 (s54:Unit)=>
  ((idx p1 (k60:Int)).bind fun x67=>
  (if (!ieq x61 x67)=true then
  some (Ctl.ret (false))
  else
  some (Ctl.go ())))) 0 p0 ()).bind fun (o53:Ctl _ (Unit))=>match o53 with
  | .ret r=>some r
  | .go _=>none
  | .brk s64=>
  some (true)))
def Q65 (p0:(List (List Int)))(p1:(List Int)):Option (Bool):=
  ((forL (fun k68 x69 (s62:Unit)=>
  ((Q54 x69 p1).bind fun r76=>
  (if r76=true then
  some (Ctl.ret (true))
  else
  some (Ctl.go ())))) 0 p0 ()).bind fun (o61:Ctl _ (Unit))=>match o61 with
  | .ret r=>some r
  | .go _=>none
  | .brk s72=>
  some (false))
def Q6m (n:Nat)(p0:(List Q4))(p1:Q6)(p2:(List Q3))(p3:Int)(p4:Q1):Option (Int×(List W9)×Int):=
  ((W8 n p0 p1 p2 p3).bind fun r1=>
  (if (!r1.2)=true then
  some (((-1),[],(-1)))
  else
  ((Q2r n p0 p1 p4).bind fun r21=>
  (if (!r21)=true then
  some (((-1),[],(-1)))
  else
  ((Q49 n r1.1 p2 p4).bind fun r23=>
  some ((r23.1,r23.2.1,r23.2.2)))))))
def Q67 (p0:X0):Option (Unit):=
  some (())
def Q4q (n:Nat)(p0:(List Q4))(p1:Q6)(p2:(List Q3))(p3:Q1):Option (Int×(List W9)×Int):=
  ((Q1b n p0 p1 p2).bind fun r1=>
  (if (!r1.2)=true then
  some (((-1),[],(-1)))
  else
  ((Q2r n p0 p1 p3).bind fun r21=>
  (if (!r21)=true then
  some (((-1),[],(-1)))
  else
  ((Q28 n r1.1 p2 p3 (fun a0=>Q67 a0)).bind fun r23=>
  some ((r23.1,r23.2.1,r23.2.2)))))))
def Q2d (n:Nat)(p0:(List Int)):Option (Bool):=
  (if (ilt 1048576 (lenZ p0.length))=true then
  some (true)
  else
  ((Q38 n p0).bind fun r3=>
  ((Q2e n r3.1 r3.2.1 r3.2.2.1 r3.2.2.2).bind fun r4=>
  ((Q2a n r3.1 r3.2.1 r3.2.2.1 r3.2.2.2).bind fun r5=>
  (if (!ieq (lenZ r4.length) (lenZ r5.length))=true then
  some (false)
  else
  ((forL (fun k321 x322 (s315:Unit)=>
  ((idx r5 (k321:Int)).bind fun x369=>
  ((Q54 x322 x369).bind fun r370=>
  (if (!r370)=true then
  some (Ctl.ret (false))
  else
  ((Q7q r4 (k321:Int)).bind fun x373=>
  ((Q65 x373 x322).bind fun r374=>
  (if r374=true then
  some (Ctl.ret (false))
  else
  some (Ctl.go ())))))))) 0 r4 ()).bind fun (o314:Ctl _ (Unit))=>match o314 with
  | .ret r=>some r
  | .go _=>none
  | .brk s325=>
  ((Q6m n r3.1 r3.2.1 r3.2.2.1 0 r3.2.2.2).bind fun r378=>
  ((Q4q n r3.1 r3.2.1 r3.2.2.1 r3.2.2.2).bind fun r379=>
  (if (ile r378.2.2 (lenZ r4.length))=true then
  (if (ilt r379.2.2 0)=true then
  (if (ieq (lenZ r4.length) 0)=true then
  some (true)
  else
  some (ile (lenZ r4.length) r379.2.2))
  else
  some (ile (lenZ r4.length) r379.2.2))
  else
  some (false))))))))))
end Go.Proofs.YtgjpamkllimhdaaGreat
