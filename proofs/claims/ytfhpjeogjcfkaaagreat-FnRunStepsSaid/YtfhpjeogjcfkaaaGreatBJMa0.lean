import Derived.Test.YtfhpjeogjcfkaaaGreatBJMir
set_option linter.unusedSimpArgs false
set_option linter.unusedVariables false
namespace Go.Proofs.YtfhpjeogjcfkaaaGreat
open Go Go.RowKit
def Q2o (n:Nat)(p0:(List Int)):Option ((List Q4)×Q7×(List Q3)×Q2):=
  ((Q1t p0).bind fun r1=>
  ((Q2h n r1).bind fun r2=>
  ((Q3k n r2.2.2.2.2 r2.2.2.1).bind fun r3=>
  ((Q1w n r3.2 r2.2.2.2.1).bind fun r4=>
  some ((r2.1,r2.2.1,r3.1,r4.1))))))
def Q5f (n:Nat)(p0:(List Int)):Option ((List Q4)×Q7×(List Q3)×Q2):=
  ((Q2o n p0).bind fun r1=>
  some ((r1.1,r1.2.1,r1.2.2.1,r1.2.2.2)))
def Q73 (p0:X8):Option (Unit):=
  some (())
def Q85:Nat→Q0→(List Int)→(List X8)→(List Q1)→Option ((List X8)×(List Q1))
 | 0,_,_,_,_=>none
 | n+1,p0,p1,p2,p3=>
  ((X7 p1).bind fun r1=>
  (((((if (ieq p0.op 2)=true then
  some (Ctl.brk (ieq p0.op 2))
  else
  some (Ctl.brk (ieq p0.op 6)))).bind fun (o18:Ctl _ (Bool))=>match o18 with
  | .ret r=>some r
  | .go _=>none
  | .brk s17=>
  (if s17=true then
  ((app p3 [(Q1.mk p0.var r1)]).bind fun x22=>
  some (Ctl.brk (p2,(p3++[(Q1.mk p0.var r1)]))))
  else
  (if (ieq p0.op 3)=true then
  ((app p2 [(X8.mk 1 r1 (-1) p0.n p0.m 0 [] 0)]).bind fun x24=>
  some (Ctl.brk ((p2++[(X8.mk 1 r1 (-1) p0.n p0.m 0 [] 0)]),p3)))
  else
  (if (ieq p0.op 4)=true then
  ((app p2 [(X8.mk 1 r1 p0.ctor 0 0 0 [] 0)]).bind fun x26=>
  some (Ctl.brk ((p2++[(X8.mk 1 r1 p0.ctor 0 0 0 [] 0)]),p3)))
  else
  some (Ctl.brk (p2,p3))))))).bind fun (o14:Ctl _ ((List X8)×(List Q1)))=>match o14 with
  | .ret r=>some r
  | .go _=>none
  | .brk s13=>
  ((forL (fun k83 x84 (s79:(List X8)×(List Q1))=>
  (((if (ieq p0.op 4)=true then
  ((X7 p1).bind fun r105=>
  ((app r105 [(k83:Int)]).bind fun x106=>
  some (Ctl.brk x106)))
  else
  some (Ctl.brk p1))).bind fun (o102:Ctl _ ((List Int)))=>match o102 with
  | .ret r=>some r
  | .go _=>none
  | .brk s101=>
  ((Q85 n x84 s101 s79.1 s79.2).bind fun r107=>
  some (Ctl.go (r107.1,r107.2))))) 0 p0.kids (s13.1,s13.2)).bind fun (o78:Ctl _ ((List X8)×(List Q1)))=>match o78 with
  | .ret r=>some r
  | .go _=>none
  | .brk s87=>
  some ((s87.1,s87.2)))))
def Q4c (p0:Q1)(p1:Q1):Option (Int):=
  ((Q18 p0.var p1.var).bind fun r1=>
  some (r1))
def Q3q (n:Nat)(p0:(List Q4))(p1:Q7)(p2:(List Q3)):Option ((List X8)×Bool):=
  ((Q1m n p0 p1 p2).bind fun r3=>
  (if (!r3)=true then
  some (([],false))
  else
  ((Q1k n p2).bind fun r5=>
  (if (!r5.2)=true then
  some (([],false))
  else
  ((forL (fun k8573 x8574 (s8569:(List X8))=>
  ((forL (fun k10106 x10107 (s10102:(List X8))=>
  ((Q85 n x10107 [] s10102 []).bind fun r10175=>
  ((Y7 n r10175.2 (fun a0 a1=>Q4c a0 a1)).bind fun r10176=>
  ((chk (decide ((r10176).length=(r10175.2).length))).bind fun x10177=>
  ((whileL (fun (s10223:(List X8)×Int)=>
  (if (ilt s10223.2 (lenZ s10223.1.length))=true then
  ((idx s10223.1 s10223.2).bind fun x10236=>
  ((setI s10223.1 s10223.2 (X8.mk x10236.op x10236.path x10236.ctor x10236.n x10236.m x10236.clause x10236.binds (wadd .i64 (lenZ s10223.1.length) 1))).bind fun x10237=>
  some (Ctl.go (x10237,wadd .i64 s10223.2 1))))
  else
  some (Ctl.brk (s10223.1,s10223.2)))) n (r10175.1,lenZ s10102.length)).bind fun (o10222:Ctl _ ((List X8)×Int))=>match o10222 with
  | .ret r=>some r
  | .go _=>none
  | .brk s10231=>
  ((app s10231.1 [(X8.mk 2 [] 0 0 0 (k8573:Int) r10176 0)]).bind fun x10238=>
  some (Ctl.go (s10231.1++[(X8.mk 2 [] 0 0 0 (k8573:Int) r10176 0)])))))))) 0 x8574 s8569).bind fun (o10101:Ctl _ ((List X8)))=>match o10101 with
  | .ret r=>some r
  | .go _=>none
  | .brk s10110=>
  ((whileL (fun (s10264:(List X8)×Int)=>
  (if (ilt s10264.2 (lenZ s10264.1.length))=true then
  ((((idx s10264.1 s10264.2).bind fun x10281=>
  (if (ieq x10281.op 2)=true then
  ((setI s10264.1 s10264.2 (X8.mk x10281.op x10281.path x10281.ctor x10281.n x10281.m x10281.clause x10281.binds (lenZ s10264.1.length))).bind fun x10283=>
  some (Ctl.brk x10283))
  else
  some (Ctl.brk s10264.1)))).bind fun (o10279:Ctl _ ((List X8)))=>match o10279 with
  | .ret r=>some r
  | .go _=>none
  | .brk s10278=>
  some (Ctl.go (s10278,wadd .i64 s10264.2 1)))
  else
  some (Ctl.brk (s10264.1,s10264.2)))) n (s10110,lenZ s8569.length)).bind fun (o10263:Ctl _ ((List X8)×Int))=>match o10263 with
  | .ret r=>some r
  | .go _=>none
  | .brk s10272=>
  some (Ctl.go s10272.1)))) 0 r5.1 []).bind fun (o8568:Ctl _ ((List X8)))=>match o8568 with
  | .ret r=>some r
  | .go _=>none
  | .brk s8577=>
  ((app s8577 [(X8.mk 3 [] 0 0 0 0 [] 0)]).bind fun x10284=>
  some (((s8577++[(X8.mk 3 [] 0 0 0 0 [] 0)]),true))))))))
def Q4y (n:Nat)(p0:(List X8))(p1:(List Q3))(p2:Q2)(p3:(X8→Option Unit)):Option (Int×(List X3)×Int):=
  ((whileL (fun (s94:Int×Int)=>
  ((idx p0 s94.2).bind fun x105=>
  (if (ieq x105.op 3)=true then
  some (Ctl.ret (((-1),[],s94.1)))
  else
  ((p3 x105).bind fun r108=>
  (if (ieq x105.op 1)=true then
  ((((Q6k p2 x105.path).bind fun r134=>
  ((Q3a x105.ctor x105.n x105.m r134).bind fun r135=>
  (if (!r135)=true then
  some (Ctl.brk x105.to)
  else
  some (Ctl.brk (wadd .i64 s94.2 1)))))).bind fun (o131:Ctl _ (Int))=>match o131 with
  | .ret r=>some r
  | .go _=>none
  | .brk s130=>
  some (Ctl.go (wadd .i64 s94.1 1,s130)))
  else
  ((Q6m n x105.binds p2).bind fun r139=>
  ((idx p1 x105.clause).bind fun x144=>
  ((J2 x144.guard r139).bind fun r145=>
  (if r145=true then
  some (Ctl.ret ((x105.clause,r139,s94.1)))
  else
  some (Ctl.go (s94.1,x105.to))))))))))) n (0,0)).bind fun (o93:Ctl _ (Int×Int))=>match o93 with
  | .ret r=>some r
  | .go _=>none
  | .brk s104=>
  none)
def Q8o (n:Nat)(p0:(List Q4))(p1:Q7)(p2:(List Q3))(p3:Q2):Option (Int×(List X3)×Int):=
  ((Q3q n p0 p1 p2).bind fun r1=>
  (if (!r1.2)=true then
  some (((-1),[],(-1)))
  else
  ((Q2j n p0 p1 p3).bind fun r21=>
  (if (!r21)=true then
  some (((-1),[],(-1)))
  else
  ((Q4y n r1.1 p2 p3 (fun a0=>Q73 a0)).bind fun r23=>
  some ((r23.1,r23.2.1,r23.2.2)))))))
def Q5v:Nat→(List Q1)→Q0→(List Int)→Option ((List Q1))
 | 0,_,_,_=>none
 | n+1,p0,p1,p2=>
  (((if (ieq p1.op 2)=true then
  ((app [] p2).bind fun x26=>
  ((app p0 [(Q1.mk p1.var p2)]).bind fun x27=>
  some (Ctl.brk (p0++[(Q1.mk p1.var p2)]))))
  else
  (if (ieq p1.op 6)=true then
  ((app [] p2).bind fun x29=>
  ((app p0 [(Q1.mk p1.var p2)]).bind fun x30=>
  some (Ctl.brk (p0++[(Q1.mk p1.var p2)]))))
  else
  some (Ctl.brk p0)))).bind fun (o15:Ctl _ ((List Q1)))=>match o15 with
  | .ret r=>some r
  | .go _=>none
  | .brk s14=>
  ((forL (fun k190 x191 (s184:(List Q1))=>
  (((if (ieq p1.op 4)=true then
  ((Q5b p2 (k190:Int)).bind fun r215=>
  some (Ctl.brk r215))
  else
  some (Ctl.brk p2))).bind fun (o211:Ctl _ ((List Int)))=>match o211 with
  | .ret r=>some r
  | .go _=>none
  | .brk s210=>
  ((Q5v n s184 x191 s210).bind fun r217=>
  some (Ctl.go r217)))) 0 p1.kids s14).bind fun (o183:Ctl _ ((List Q1)))=>match o183 with
  | .ret r=>some r
  | .go _=>none
  | .brk s194=>
  some (s194)))
def Q4f:Nat→(List X8)→Q0→(List Int)→Option ((List X8))
 | 0,_,_,_=>none
 | n+1,p0,p1,p2=>
  (((if (ieq p1.op 6)=true then
  ((idx p1.kids 0).bind fun x62=>
  ((Q4f n p0 x62 p2).bind fun r63=>
  some (Ctl.ret (r63))))
  else
  (if (ieq p1.op 3)=true then
  ((app [] p2).bind fun x66=>
  ((app p0 [(X8.mk 1 p2 (-1) p1.n p1.m 0 [] 0)]).bind fun x67=>
  some (Ctl.ret ((p0++[(X8.mk 1 p2 (-1) p1.n p1.m 0 [] 0)])))))
  else
  (if (ieq p1.op 4)=true then
  ((app [] p2).bind fun x69=>
  ((app p0 [(X8.mk 1 p2 p1.ctor 0 0 0 [] 0)]).bind fun x70=>
  ((forL (fun k104 x105 (s98:(List X8))=>
  ((Q5b p2 (k104:Int)).bind fun r113=>
  ((Q4f n s98 x105 r113).bind fun r114=>
  some (Ctl.go r114)))) 0 p1.kids (p0++[(X8.mk 1 p2 p1.ctor 0 0 0 [] 0)])).bind fun (o97:Ctl _ ((List X8)))=>match o97 with
  | .ret r=>some r
  | .go _=>none
  | .brk s108=>
  some (Ctl.brk s108))))
  else
  some (Ctl.brk p0))))).bind fun (o58:Ctl _ ((List X8)))=>match o58 with
  | .ret r=>some r
  | .go _=>none
  | .brk s57=>
  some (s57))
def Q7k (n:Nat)(p0:(List Q3)):Option ((List X8)):=
  ((forL (fun k5680 x5681 (s5674:(List X8))=>
  ((Y5 n x5681.pat).bind fun r6249=>
  ((forL (fun k6679 x6680 (s6673:(List X8))=>
  ((Q4f n s6673 x6680 []).bind fun r6723=>
  ((Q5v n [] x6680 []).bind fun r6724=>
  ((Q35 n r6724).bind fun r6725=>
  ((app r6723 [(X8.mk 2 [] 0 0 0 (k5680:Int) r6725 0)]).bind fun x6726=>
  ((whileL (fun (s6742:(List X8)×Int)=>
  (if (ilt s6742.2 (lenZ s6742.1.length))=true then
  ((idx s6742.1 s6742.2).bind fun x6757=>
  ((setI s6742.1 s6742.2 (X8.mk x6757.op x6757.path x6757.ctor x6757.n x6757.m x6757.clause x6757.binds (lenZ s6742.1.length))).bind fun x6758=>
  some (Ctl.go (x6758,wadd .i64 s6742.2 1))))
  else
  some (Ctl.brk (s6742.1,s6742.2)))) n ((r6723++[(X8.mk 2 [] 0 0 0 (k5680:Int) r6725 0)]),lenZ s6673.length)).bind fun (o6741:Ctl _ ((List X8)×Int))=>match o6741 with
  | .ret r=>some r
  | .go _=>none
  | .brk s6752=>
  some (Ctl.go s6752.1))))))) 0 r6249 s5674).bind fun (o6672:Ctl _ ((List X8)))=>match o6672 with
  | .ret r=>some r
  | .go _=>none
  | .brk s6683=>
  ((whileL (fun (s6789:(List X8)×Int)=>
  (if (ilt s6789.2 (lenZ s6789.1.length))=true then
  ((((idx s6789.1 s6789.2).bind fun x6809=>
  (if (ieq x6809.op 2)=true then
  ((setI s6789.1 s6789.2 (X8.mk x6809.op x6809.path x6809.ctor x6809.n x6809.m x6809.clause x6809.binds (lenZ s6789.1.length))).bind fun x6811=>
  some (Ctl.brk x6811))
  else
  some (Ctl.brk s6789.1)))).bind fun (o6806:Ctl _ ((List X8)))=>match o6806 with
  | .ret r=>some r
  | .go _=>none
  | .brk s6805=>
  some (Ctl.go (s6805,wadd .i64 s6789.2 1)))
  else
  some (Ctl.brk (s6789.1,s6789.2)))) n (s6683,lenZ s5674.length)).bind fun (o6788:Ctl _ ((List X8)×Int))=>match o6788 with
  | .ret r=>some r
  | .go _=>none
  | .brk s6799=>
  some (Ctl.go s6799.1))))) 0 p0 []).bind fun (o5673:Ctl _ ((List X8)))=>match o5673 with
  | .ret r=>some r
  | .go _=>none
  | .brk s5684=>
  ((app s5684 [(X8.mk 3 [] 0 0 0 0 [] 0)]).bind fun x6813=>
  some ((s5684++[(X8.mk 3 [] 0 0 0 0 [] 0)]))))
def Q3m (n:Nat)(p0:(List Q4))(p1:Q7)(p2:(List Q3)):Option ((List X8)×Bool):=
  ((Q1j n p0 p1 p2).bind fun r4=>
  (if (!r4)=true then
  some (([],false))
  else
  ((forL (fun k73 x74 (s67:Unit)=>
  ((Y5 n x74.pat).bind fun r81=>
  (if (ilt 40 (lenZ r81.length))=true then
  some (Ctl.ret (([],false)))
  else
  some (Ctl.go ())))) 0 p2 ()).bind fun (o66:Ctl _ (Unit))=>match o66 with
  | .ret r=>some r
  | .go _=>none
  | .brk s77=>
  ((Q7k n p2).bind fun r84=>
  some ((r84,true))))))
def Q7u (p0:Q2)(p1:(List Int)):Option (Q2):=
  ((forL (fun k50 x51 (s44:Q2)=>
  ((idx s44.kids x51).bind fun x56=>
  some (Ctl.go x56))) 0 p1 p0).bind fun (o43:Ctl _ (Q2))=>match o43 with
  | .ret r=>some r
  | .go _=>none
  | .brk s54=>
  some (s54))
def Q5d:Nat→Q2→Option (Q2)
 | 0,_=>none
 | n+1,p0=>
  ((forL (fun k70 x71 (s64:(List Q2))=>
  ((Q5d n x71).bind fun r78=>
  ((app s64 [r78]).bind fun x79=>
  some (Ctl.go x79)))) 0 p0.kids []).bind fun (o63:Ctl _ ((List Q2)))=>match o63 with
  | .ret r=>some r
  | .go _=>none
  | .brk s74=>
  some ((Q2.mk p0.ctor p0.n s74)))
def Q4u (n:Nat)(p0:(List Q1))(p1:Q2):Option ((List X3)):=
  ((forL (fun k90 x91 (s84:(List X3))=>
  ((Q7u p1 x91.path).bind fun r100=>
  ((Q5d n r100).bind fun r101=>
  ((app s84 [(X3.mk x91.var r101)]).bind fun x102=>
  some (Ctl.go x102))))) 0 p0 []).bind fun (o83:Ctl _ ((List X3)))=>match o83 with
  | .ret r=>some r
  | .go _=>none
  | .brk s94=>
  some (s94))
def Q3d (p0:Q27)(p1:(List X3)):Option (Bool):=
  (if (ieq p0.op 0)=true then
  some (true)
  else
  ((forL (fun k188 x189 (s182:Unit)=>
  (((if (!ieq x189.var p0.var)=true then
  some (Ctl.brk ())
  else
  (if (ieq x189.value.ctor (-1))=true then
  (if (ieq p0.op 1)=true then
  (if (ilt x189.value.n p0.n)=true then
  some (Ctl.ret (Ctl.ret (true)))
  else
  (if (ieq p0.op 2)=true then
  some (Ctl.ret (Ctl.ret (ieq x189.value.n p0.n)))
  else
  some (Ctl.ret (Ctl.ret (false)))))
  else
  (if (ieq p0.op 2)=true then
  some (Ctl.ret (Ctl.ret (ieq x189.value.n p0.n)))
  else
  some (Ctl.ret (Ctl.ret (false)))))
  else
  some (Ctl.ret (Ctl.ret (false)))))).bind fun (o206:Ctl _ (Unit))=>match o206 with
  | .ret r=>some r
  | .go _=>none
  | .brk s205=>
  some (Ctl.go ()))) 0 p1 ()).bind fun (o181:Ctl _ (Unit))=>match o181 with
  | .ret r=>some r
  | .go _=>none
  | .brk s192=>
  some (false)))
def Q6a (p0:X8)(p1:Q2):Option (Bool):=
  (if (ieq p1.ctor p0.ctor)=true then
  (if (!ieq p0.ctor (-1))=true then
  some (true)
  else
  (if (ile p0.n p1.n)=true then
  some (ile p1.n p0.m)
  else
  some (false)))
  else
  some (false))
def Q83 (n:Nat)(p0:(List Q3))(p1:(List X8))(p2:Q2):Option (Int×(List X3)×(List (List Int))):=
  ((whileL (fun (s69:Int×(List (List Int)))=>
  ((idx p1 s69.1).bind fun x82=>
  (if (!ieq x82.op 3)=true then
  (if (ieq x82.op 2)=true then
  ((Q4u n x82.binds p2).bind fun r96=>
  ((idx p0 x82.clause).bind fun x101=>
  ((Q3d x101.guard r96).bind fun r102=>
  (if r102=true then
  some (Ctl.ret ((x82.clause,r96,s69.2)))
  else
  some (Ctl.go (x82.to,s69.2))))))
  else
  ((app s69.2 [x82.path]).bind fun x106=>
  ((Q7u p2 x82.path).bind fun r107=>
  ((Q6a x82 r107).bind fun r108=>
  (if r108=true then
  some (Ctl.go (wadd .i64 s69.1 1,x106))
  else
  some (Ctl.go (x82.to,x106)))))))
  else
  some (Ctl.brk (s69.1,s69.2))))) n (0,[])).bind fun (o68:Ctl _ (Int×(List (List Int))))=>match o68 with
  | .ret r=>some r
  | .go _=>none
  | .brk s79=>
  some (((-1),[],s79.2)))
def Q8m (n:Nat)(p0:(List Q4))(p1:Q7)(p2:(List Q3))(p3:Q2):Option (Int×(List X3)×Int):=
  ((Q3m n p0 p1 p2).bind fun r1=>
  (if (!r1.2)=true then
  some (((-1),[],(-1)))
  else
  ((Q98 n p0 p1 p3).bind fun r21=>
  (if (!r21)=true then
  some (((-1),[],(-1)))
  else
  ((Q83 n p2 r1.1 p3).bind fun r23=>
  some ((r23.1,r23.2.1,lenZ r23.2.2.length)))))))
def Q0v (p0:(List Q2))(p1:(List Q2))(p2:(Q2→Q2→Option Bool)):Option (Bool):=
  (if (!ieq (lenZ p0.length) (lenZ p1.length))=true then
  some (false)
  else
  ((forL (fun k80 x81 (s74:Unit)=>
  ((idx p1 (k80:Int)).bind fun x89=>
  ((p2 x81 x89).bind fun r90=>
  (if (!r90)=true then
  some (Ctl.ret (false))
  else
  some (Ctl.go ()))))) 0 p0 ()).bind fun (o73:Ctl _ (Unit))=>match o73 with
  | .ret r=>some r
  | .go _=>none
  | .brk s84=>
  some (true)))
def Q42:Nat→Q2→Q2→Option (Bool)
 | 0,_,_=>none
 | n+1,p0,p1=>
  (if (ieq p0.ctor p1.ctor)=true then
  (if (ieq p0.n p1.n)=true then
  ((Q0v p0.kids p1.kids (fun a0 a1=>Q42 n a0 a1)).bind fun r7=>
  some (r7))
  else
  some (false))
  else
  some (false))
def Q13 (n:Nat)(p0:(List X3))(p1:(List X3)):Option (Bool):=
  (if (!ieq (lenZ p0.length) (lenZ p1.length))=true then
  some (false)
  else
  ((forL (fun k196 x197 (s190:Unit)=>
  ((idx p1 (k196:Int)).bind fun x224=>
  (if (!ieq x197.var x224.var)=true then
  some (Ctl.ret (false))
  else
  ((Q42 n x197.value x224.value).bind fun r226=>
  (if (!r226)=true then
  some (Ctl.ret (false))
  else
  some (Ctl.go ())))))) 0 p0 ()).bind fun (o189:Ctl _ (Unit))=>match o189 with
  | .ret r=>some r
  | .go _=>none
  | .brk s200=>
  some (true)))
def Q4b:Nat→Q0→Q2→Option ((List X3)×Bool)
 | 0,_,_=>none
 | n+1,p0,p1=>
  (if (ieq p0.op 1)=true then
  some (([],true))
  else
  (if (ieq p0.op 2)=true then
  some (([(X3.mk p0.var p1)],true))
  else
  (if (ieq p0.op 3)=true then
  ((Y2 p1.n p0.n p0.m).bind fun r26=>
  some (([],r26)))
  else
  (if (ieq p0.op 5)=true then
  ((idx p0.kids 0).bind fun x33=>
  ((Q4b n x33 p1).bind fun r34=>
  (if r34.2=true then
  some ((r34.1,true))
  else
  ((idx p0.kids 1).bind fun x36=>
  ((Q4b n x36 p1).bind fun r37=>
  some ((r37.1,r37.2)))))))
  else
  (if (ieq p0.op 6)=true then
  ((idx p0.kids 0).bind fun x41=>
  ((Q4b n x41 p1).bind fun r42=>
  ((app [(X3.mk p0.var p1)] r42.1).bind fun x43=>
  some ((x43,r42.2)))))
  else
  (if (!ieq p0.ctor p1.ctor)=true then
  some (([],false))
  else
  ((forL (fun k146 x147 (s140:(List X3))=>
  ((idx p1.kids (k146:Int)).bind fun x157=>
  ((Q4b n x147 x157).bind fun r158=>
  (if (!r158.2)=true then
  some (Ctl.ret (([],false)))
  else
  ((app s140 r158.1).bind fun x161=>
  some (Ctl.go x161)))))) 0 p0.kids []).bind fun (o139:Ctl _ ((List X3)))=>match o139 with
  | .ret r=>some r
  | .go _=>none
  | .brk s150=>
  some ((s150,true)))))))))
def J9 (n:Nat)(p0:(List X3))(p1:Int)(p2:Int)(p3:(X3→X3→Option Int)):Option ((List X3)):=
  ((whileL (fun (s544:(List X3)×Int)=>
  (if (ilt s544.2 p2)=true then
  ((whileL (fun (s774:(List X3)×Int)=>
  (if (ilt p1 s774.2)=true then
  ((idx s774.1 s774.2).bind fun x814=>
  ((idx s774.1 (wsub .i64 s774.2 1)).bind fun x815=>
  ((p3 x814 x815).bind fun r816=>
  (if (ilt r816 0)=true then
  ((setI s774.1 s774.2 x815).bind fun x821=>
  ((idx x821 (wsub .i64 s774.2 1)).bind fun x822=>
  ((setI x821 (wsub .i64 s774.2 1) x814).bind fun x823=>
  some (Ctl.go (x823,wsub .i64 s774.2 1)))))
  else
  some (Ctl.brk (s774.1,s774.2))))))
  else
  some (Ctl.brk (s774.1,s774.2)))) n (s544.1,s544.2)).bind fun (o773:Ctl _ ((List X3)×Int))=>match o773 with
  | .ret r=>some r
  | .go _=>none
  | .brk s784=>
  some (Ctl.go (s784.1,wadd .i64 s544.2 1)))
  else
  some (Ctl.brk (s544.1,s544.2)))) n (p0,wadd .i64 p1 1)).bind fun (o543:Ctl _ ((List X3)×Int))=>match o543 with
  | .ret r=>some r
  | .go _=>none
  | .brk s554=>
  some (s554.1))
def Q1r:Nat→(List X3)→Int→Int→Int→(X3→X3→Option Int)→Option ((List X3))
 | 0,_,_,_,_,_=>none
 | n+1,p0,p1,p2,p3,p4=>
  ((whileL (fun (s12:Unit)=>
  (if (ile (wsub .i64 p2 p1) 12)=true then
  ((J9 n p0 p1 p2 p4).bind fun r28=>
  ((chk (decide ((r28).length=(p0).length))).bind fun x29=>
  some (Ctl.ret (r28))))
  else
  (if (ieq p3 0)=true then
  none
  else
  none))) n ()).bind fun (o11:Ctl _ (Unit))=>match o11 with
  | .ret r=>some r
  | .go _=>none
  | .brk s22=>
  some (p0))
def Q1d (n:Nat)(p0:(List X3))(p1:(X3→X3→Option Int)):Option ((List X3)):=
  ((Q6g (wcv .u64 (lenZ p0.length))).bind fun r1=>
  ((Q1r n p0 0 (lenZ p0.length) r1 p1).bind fun r2=>
  ((chk (decide ((r2).length=(p0).length))).bind fun x3=>
  some (r2))))
def Q26 (p0:X3)(p1:X3):Option (Int):=
  ((Q18 p0.var p1.var).bind fun r1=>
  some (r1))
def Q62 (n:Nat)(p0:Q0)(p1:Q2):Option ((List X3)×Bool):=
  ((Q4b n p0 p1).bind fun r1=>
  (if (!r1.2)=true then
  some (([],false))
  else
  ((Q1d n r1.1 (fun a0 a1=>Q26 a0 a1)).bind fun r4=>
  ((chk (decide ((r4).length=(r1.1).length))).bind fun x5=>
  ((forL (fun k77 x78 (s71:(List X3))=>
  ((idx s71 (k77:Int)).bind fun x86=>
  ((Q2p n x86.value).bind fun r87=>
  ((setI s71 (k77:Int) (X3.mk x86.var r87)).bind fun x88=>
  some (Ctl.go x88))))) 0 r4 r4).bind fun (o70:Ctl _ ((List X3)))=>match o70 with
  | .ret r=>some r
  | .go _=>none
  | .brk s81=>
  some ((s81,true)))))))
def Z0d (n:Nat)(p0:(List Q3))(p1:Q2):Option (Int×(List X3)):=
  ((forL (fun k188 x189 (s182:Unit)=>
  ((((Q62 n x189.pat p1).bind fun r210=>
  (if r210.2=true then
  ((J2 x189.guard r210.1).bind fun r219=>
  (if r219=true then
  some (Ctl.ret (Ctl.ret (((k188:Int),r210.1))))
  else
  some (Ctl.brk ())))
  else
  some (Ctl.brk ())))).bind fun (o207:Ctl _ (Unit))=>match o207 with
  | .ret r=>some r
  | .go _=>none
  | .brk s206=>
  some (Ctl.go ()))) 0 p0 ()).bind fun (o181:Ctl _ (Unit))=>match o181 with
  | .ret r=>some r
  | .go _=>none
  | .brk s192=>
  some (((-1),[])))
def Q52 (n:Nat)(p0:(List Q4))(p1:Q7)(p2:(List Q3))(p3:Q2):Option (Int×(List X3)×Bool):=
  ((Q1m n p0 p1 p2).bind fun r34=>
  (if (!r34)=true then
  some (((-1),[],false))
  else
  ((Q2j n p0 p1 p3).bind fun r37=>
  (if (!r37)=true then
  some (((-1),[],false))
  else
  ((Z0d n p2 p3).bind fun r39=>
  some ((r39.1,r39.2,true)))))))
def Q3e (n:Nat)(p0:(List Int)):Option (Bool):=
  (if (ilt 1048576 (lenZ p0.length))=true then
  some (true)
  else
  ((Q5f n p0).bind fun r3=>
  ((Q8o n r3.1 r3.2.1 r3.2.2.1 r3.2.2.2).bind fun r4=>
  ((Q8m n r3.1 r3.2.1 r3.2.2.1 r3.2.2.2).bind fun r5=>
  (if (!ieq r4.1 r5.1)=true then
  (if (ieq r4.1 r5.1)=true then
  (if (ieq r4.2.2 r5.2.2)=true then
  ((Q13 n r4.2.1 r5.2.1).bind fun r142=>
  some (r142))
  else
  some (false))
  else
  some (false))
  else
  (if (!ieq r4.2.2 r5.2.2)=true then
  (if (ieq r4.1 r5.1)=true then
  (if (ieq r4.2.2 r5.2.2)=true then
  ((Q13 n r4.2.1 r5.2.1).bind fun r151=>
  some (r151))
  else
  some (false))
  else
  some (false))
  else
  ((Q13 n r4.2.1 r5.2.1).bind fun r153=>
  (if (!r153)=true then
  (if (ieq r4.1 r5.1)=true then
  (if (ieq r4.2.2 r5.2.2)=true then
  ((Q13 n r4.2.1 r5.2.1).bind fun r161=>
  some (r161))
  else
  some (false))
  else
  some (false))
  else
  (if (ilt r4.2.2 0)=true then
  (if (ieq r4.1 r5.1)=true then
  (if (ieq r4.2.2 r5.2.2)=true then
  ((Q13 n r4.2.1 r5.2.1).bind fun r171=>
  some (r171))
  else
  some (false))
  else
  some (false))
  else
  ((Q52 n r3.1 r3.2.1 r3.2.2.1 r3.2.2.2).bind fun r173=>
  (if r173.2.2=true then
  (if (ieq r173.1 r4.1)=true then
  ((Q13 n r4.2.1 r173.2.1).bind fun r180=>
  some (r180))
  else
  some (false))
  else
  some (false))))))))))))
end Go.Proofs.YtfhpjeogjcfkaaaGreat
