import Derived.Test.YtjgapphpbkapmaaGreatJMir
set_option linter.unusedSimpArgs false
set_option linter.unusedVariables false
namespace Go.Proofs.YtjgapphpbkapmaaGreat
open Go Go.RowKit
def J1 (n:Nat) (p0:(List X8)) (p1:Int) (p2:Int) (p3:(X8→X8→Option Int)):Option ((List X8)):=
  ((whileL (fun (s544:(List X8)×Int)=>
  (if (ilt s544.2 p2)=true then
  ((whileL (fun (s774:(List X8)×Int)=>
  (if (ilt p1 s774.2)=true then
  ((idx s774.1 s774.2).bind fun x814=>
  ((idx s774.1 (wsub .i64 s774.2 1)).bind fun x815=>
  ((p3 x814 x815).bind fun r816=>
  (if (ilt r816 0)=true then
  ((setI s774.1 s774.2 x815).bind fun x821=>
  ((idx x821 (wsub .i64 s774.2 1)).bind fun x822=>
  ((setI x821 (wsub .i64 s774.2 1) x814).bind fun x823=>
  some (Ctl.go (x823,wsub .i64 s774.2 1)))))
  else
  some (Ctl.brk (s774.1,s774.2))))))
  else
  some (Ctl.brk (s774.1,s774.2)))) n (s544.1,s544.2)).bind fun (o773:Ctl _ ((List X8)×Int))=>match o773 with
  | .ret r=>some r
  | .go _=>none
  | .brk s784=>
  some (Ctl.go (s784.1,wadd .i64 s544.2 1)))
  else
  some (Ctl.brk (s544.1,s544.2)))) n (p0,wadd .i64 p1 1)).bind fun (o543:Ctl _ ((List X8)×Int))=>match o543 with
  | .ret r=>some r
  | .go _=>none
  | .brk s554=>
  some (s554.1))
def Q1b:Nat→(List X8)→Int→Int→Int→(X8→X8→Option Int)→Option ((List X8))
 | 0,_,_,_,_,_=>none
 | n+1,p0,p1,p2,p3,p4=>
  ((whileL (fun (s12:Unit)=>
  (if (ile (wsub .i64 p2 p1) 12)=true then
  ((J1 n p0 p1 p2 p4).bind fun r28=>
  ((chk (decide ((r28).length=(p0).length))).bind fun x29=>
  some (Ctl.ret (r28))))
  else
  (if (ieq p3 0)=true then
  none
  else
  none))) n ()).bind fun (o11:Ctl _ (Unit))=>match o11 with
  | .ret r=>some r
  | .go _=>none
  | .brk s22=>
  some (p0))
def Q0y (n:Nat) (p0:(List X8)) (p1:(X8→X8→Option Int)):Option ((List X8)):=
  ((Q58 (wcv .u64 (lenZ p0.length))).bind fun r1=>
  ((Q1b n p0 0 (lenZ p0.length) r1 p1).bind fun r2=>
  ((chk (decide ((r2).length=(p0).length))).bind fun x3=>
  some (r2))))
def Q1n (p0:X8) (p1:X8):Option (Int):=
  ((Q1a p0.var p1.var).bind fun r1=>
  some (r1))
def Q3f:Nat→Q0→Q1→Option ((List X8)×Bool)
 | 0,_,_=>none
 | n+1,p0,p1=>
  (if (ieq p0.op 1)=true then
  some (([],true))
  else
  (if (ieq p0.op 2)=true then
  some (([(X8.mk p0.var p1)],true))
  else
  (if (ieq p0.op 3)=true then
  ((V8 p1.n p0.n p0.m).bind fun r26=>
  some (([],r26)))
  else
  (if (ieq p0.op 5)=true then
  ((idx p0.kids 0).bind fun x33=>
  ((Q3f n x33 p1).bind fun r34=>
  (if r34.2=true then
  some ((r34.1,true))
  else
  ((idx p0.kids 1).bind fun x36=>
  ((Q3f n x36 p1).bind fun r37=>
  some ((r37.1,r37.2)))))))
  else
  (if (ieq p0.op 6)=true then
  ((idx p0.kids 0).bind fun x41=>
  ((Q3f n x41 p1).bind fun r42=>
  ((app [(X8.mk p0.var p1)] r42.1).bind fun x43=>
  some ((x43,r42.2)))))
  else
  (if (!ieq p0.ctor p1.ctor)=true then
  some (([],false))
  else
  ((forL (fun k146 x147 (s140:(List X8))=>
  ((idx p1.kids (k146:Int)).bind fun x157=>
  ((Q3f n x147 x157).bind fun r158=>
  (if (!r158.2)=true then
  some (Ctl.ret (([],false)))
  else
  ((app s140 r158.1).bind fun x161=>
  some (Ctl.go x161)))))) 0 p0.kids []).bind fun (o139:Ctl _ ((List X8)))=>match o139 with
  | .ret r=>some r
  | .go _=>none
  | .brk s150=>
  some ((s150,true)))))))))
def Q4v (n:Nat) (p0:Q0) (p1:Q1):Option ((List X8)×Bool):=
  ((Q3f n p0 p1).bind fun r1=>
  (if (!r1.2)=true then
  some (([],false))
  else
  ((Q0y n r1.1 (fun a0 a1=>Q1n a0 a1)).bind fun r4=>
  ((chk (decide ((r4).length=(r1.1).length))).bind fun x5=>
  ((forL (fun k77 x78 (s71:(List X8))=>
  ((idx s71 (k77:Int)).bind fun x86=>
  ((Q1i n x86.value).bind fun r87=>
  ((setI s71 (k77:Int) (X8.mk x86.var r87)).bind fun x88=>
  some (Ctl.go x88))))) 0 r4 r4).bind fun (o70:Ctl _ ((List X8)))=>match o70 with
  | .ret r=>some r
  | .go _=>none
  | .brk s81=>
  some ((s81,true)))))))
def Q8f (n:Nat) (p0:(List Q6)) (p1:Q1):Option (Int×(List X8)):=
  ((forL (fun k188 x189 (s182:Unit)=>
  ((((Q4v n x189.pat p1).bind fun r210=>
  (if r210.2=true then
  ((Q03 x189.guard r210.1).bind fun r219=>
  (if r219=true then
  some (Ctl.ret (Ctl.ret (((k188:Int),r210.1))))
  else
  some (Ctl.brk ())))
  else
  some (Ctl.brk ())))).bind fun (o207:Ctl _ (Unit))=>match o207 with
  | .ret r=>some r
  | .go _=>none
  | .brk s206=>
  some (Ctl.go ()))) 0 p0 ()).bind fun (o181:Ctl _ (Unit))=>match o181 with
  | .ret r=>some r
  | .go _=>none
  | .brk s192=>
  some (((-1),[])))
def Q44 (n:Nat) (p0:(List Q3)) (p1:Q4) (p2:(List Q6)) (p3:Q1):Option (Int×(List X8)×Bool):=
  ((Q24 n p0 p1 p2).bind fun r34=>
  (if (!r34)=true then
  some (((-1),[],false))
  else
  ((Q3v n p0 p1 p3).bind fun r37=>
  (if (!r37)=true then
  some (((-1),[],false))
  else
  ((Q8f n p2 p3).bind fun r39=>
  some ((r39.1,r39.2,true)))))))
def Q4u:Nat→X0→Q1→Option (Q1×X0)
 | 0,_,_=>none
 | n+1,p0,p1=>
  ((Z8 p0 5).bind fun r4=>
  (if (ieq r4.1 0)=true then
  some (((Q1.mk (-2) 0 []),r4.2))
  else
  ((forL (fun k77 x78 (s71:X0×(List Q1))=>
  ((Q4u n s71.1 x78).bind fun r85=>
  ((app s71.2 [r85.1]).bind fun x86=>
  some (Ctl.go (r85.2,x86))))) 0 p1.kids (r4.2,[])).bind fun (o70:Ctl _ (X0×(List Q1)))=>match o70 with
  | .ret r=>some r
  | .go _=>none
  | .brk s81=>
  some (((Q1.mk p1.ctor p1.n s81.2),s81.1)))))
def Q16 (n:Nat) (p0:(List Int)):Option ((List Q3)×Q4×(List Q6)×Int×Q1):=
  ((Q0x n p0).bind fun r1=>
  ((Q2u p0).bind fun r2=>
  ((Q4u n r2 r1.2.2.2.2).bind fun r3=>
  some ((r1.1,r1.2.1,r1.2.2.1,r1.2.2.2.1,r3.1)))))
def Q7c:Nat→Q1→Q1→Option (Bool)
 | 0,_,_=>none
 | n+1,p0,p1=>
  (if (ieq p1.ctor (-2))=true then
  some (true)
  else
  (if (!ieq p0.ctor p1.ctor)=true then
  some (false)
  else
  (if (!ieq p0.n p1.n)=true then
  some (false)
  else
  (if (!ieq (lenZ p0.kids.length) (lenZ p1.kids.length))=true then
  some (false)
  else
  ((forL (fun k96 x97 (s90:Unit)=>
  ((idx p0.kids (k96:Int)).bind fun x105=>
  ((Q7c n x105 x97).bind fun r106=>
  (if (!r106)=true then
  some (Ctl.ret (false))
  else
  some (Ctl.go ()))))) 0 p1.kids ()).bind fun (o89:Ctl _ (Unit))=>match o89 with
  | .ret r=>some r
  | .go _=>none
  | .brk s100=>
  some (true))))))
def Q37 (n:Nat) (p0:(List Q3)) (p1:Q4) (p2:Q1) (p3:Q1):Option (Bool):=
  ((Q0q n p0 p1 p2).bind fun r12=>
  (if r12=true then
  ((Q0q n p0 p1 p3).bind fun r14=>
  (if r14=true then
  ((Q7c n p2 p3).bind fun r16=>
  some (r16))
  else
  some (false)))
  else
  some (false)))
def Q0i:Nat→(List Q3)→Q4→Int→Option (Int)
 | 0,_,_,_=>none
 | n+1,p0,p1,p2=>
  (if (ieq p2 0)=true then
  some (0)
  else
  (if (ieq p1.data (-1))=true then
  some (10)
  else
  ((Q11 p0 p1).bind fun r461=>
  ((forL (fun k767 x768 (s761:Int)=>
  ((Q12 p0 p1 x768).bind fun r880=>
  ((forL (fun k906 x907 (s900:Int)=>
  ((Q0i n p0 x907 (wsub .i64 p2 1)).bind fun r913=>
  some (Ctl.go (imin (wmul .i64 s900 r913) 401)))) 0 r880 1).bind fun (o899:Ctl _ (Int))=>match o899 with
  | .ret r=>some r
  | .go _=>none
  | .brk s910=>
  some (Ctl.go (imin (wadd .i64 s761 s910) 401))))) 0 r461 0).bind fun (o760:Ctl _ (Int))=>match o760 with
  | .ret r=>some r
  | .go _=>none
  | .brk s771=>
  some (s771)))))
def Q59 (n:Nat) (p0:Q4) (q0:(List Q3)) (q1:Int):Option (Bool):=
  ((Q0i n q0 p0 (wsub .i64 q1 1)).bind fun r1=>
  some (ieq r1 0))
def Q1l (p0:(List Q1)):Option ((List Q1)):=
  ((app [] p0).bind fun x3=>
  some (p0))
def Q83 (p0:Int):Option (Q1):=
  some ((Q1.mk (-1) p0 []))
def Q3d:Nat→(List Q3)→Q4→Int→Option ((List Q1))
 | 0,_,_,_=>none
 | n+1,p0,p1,p2=>
  (if (ieq p2 0)=true then
  some ([])
  else
  (if (ieq p1.data (-1))=true then
  ((whileL (fun (s138:(List Q1)×Int)=>
  (if (ilt s138.2 10)=true then
  ((Q83 s138.2).bind fun r154=>
  ((app s138.1 [r154]).bind fun x155=>
  some (Ctl.go (x155,wadd .i64 s138.2 1))))
  else
  some (Ctl.brk (s138.1,s138.2)))) n ([],0)).bind fun (o137:Ctl _ ((List Q1)×Int))=>match o137 with
  | .ret r=>some r
  | .go _=>none
  | .brk s148=>
  some (s148.1))
  else
  ((Q11 p0 p1).bind fun r43567=>
  ((forL (fun k72509 x72510 (s72503:(List Q1))=>
  ((((Q12 p0 p1 x72510).bind fun r79747=>
  ((Q07 r79747 (fun a0=>Q59 n a0 p0 p2)).bind fun r79751=>
  (if r79751=true then
  some (Ctl.brk s72503)
  else
  ((forL (fun k85772 x85773 (s85766:(List Q1))=>
  ((Q3d n p0 x85773 (wsub .i64 p2 1)).bind fun r86375=>
  ((forL (fun k86875 x86876 (s86869:(List Q1))=>
  ((forL (fun k86959 x86960 (s86953:(List Q1))=>
  ((Q1l x86876.kids).bind fun r86968=>
  ((app r86968 [x86960]).bind fun x86969=>
  ((app s86953 [(Q1.mk x72510 0 x86969)]).bind fun x86970=>
  some (Ctl.go (s86953++[(Q1.mk x72510 0 x86969)])))))) 0 r86375 s86869).bind fun (o86952:Ctl _ ((List Q1)))=>match o86952 with
  | .ret r=>some r
  | .go _=>none
  | .brk s86963=>
  some (Ctl.go s86963))) 0 s85766 []).bind fun (o86868:Ctl _ ((List Q1)))=>match o86868 with
  | .ret r=>some r
  | .go _=>none
  | .brk s86879=>
  some (Ctl.go s86879)))) 0 r79747 [(Q1.mk x72510 0 [])]).bind fun (o85765:Ctl _ ((List Q1)))=>match o85765 with
  | .ret r=>some r
  | .go _=>none
  | .brk s85776=>
  ((app s72503 s85776).bind fun x86973=>
  some (Ctl.brk x86973))))))).bind fun (o79744:Ctl _ ((List Q1)))=>match o79744 with
  | .ret r=>some r
  | .go _=>none
  | .brk s79743=>
  some (Ctl.go s79743))) 0 r43567 []).bind fun (o72502:Ctl _ ((List Q1)))=>match o72502 with
  | .ret r=>some r
  | .go _=>none
  | .brk s72513=>
  some (s72513)))))
def Q22 (n:Nat) (p0:(List Q3)) (p1:Q4) (p2:Int):Option ((List Q1)×Bool):=
  ((Q1o n p0 p1).bind fun r59=>
  (if (!r59)=true then
  some (([],false))
  else
  ((V8 p2 0 4).bind fun r62=>
  (if (!r62)=true then
  some (([],false))
  else
  ((Q0i n p0 p1 p2).bind fun r66=>
  (if (ilt 400 r66)=true then
  some (([],false))
  else
  ((Q3d n p0 p1 p2).bind fun r110=>
  ((forL (fun k140 x141 (s134:(List Q1))=>
  ((Q1i n x141).bind fun r148=>
  ((app s134 [r148]).bind fun x149=>
  some (Ctl.go x149)))) 0 r110 []).bind fun (o133:Ctl _ ((List Q1)))=>match o133 with
  | .ret r=>some r
  | .go _=>none
  | .brk s144=>
  some ((s144,true))))))))))
def Q20 (n:Nat) (p0:(List Int)) (p1:(List Int)):Option (Bool):=
  (if (ilt 1048576 (lenZ p0.length))=true then
  some (true)
  else
  (if (ilt 1048576 (lenZ p1.length))=true then
  some (true)
  else
  ((Q16 n p0).bind fun r11=>
  ((Q19 n r11.1 r11.2.1 r11.2.2.1 r11.2.2.2.1 r11.2.2.2.2).bind fun r12=>
  ((Q1y n r11.1 r11.2.1 r11.2.2.1 r11.2.2.2.1 r11.2.2.2.2).bind fun r13=>
  (if (!ieq r12.1 r13.1)=true then
  (if (ieq r12.1 r13.1)=true then
  (if (r12.2.2==r13.2.2)=true then
  ((Q02 r12.2.1 r13.2.1).bind fun r150=>
  some (r150))
  else
  some (false))
  else
  some (false))
  else
  (if (!(r12.2.2==r13.2.2))=true then
  (if (ieq r12.1 r13.1)=true then
  (if (r12.2.2==r13.2.2)=true then
  ((Q02 r12.2.1 r13.2.1).bind fun r159=>
  some (r159))
  else
  some (false))
  else
  some (false))
  else
  ((Q02 r12.2.1 r13.2.1).bind fun r161=>
  (if (!r161)=true then
  (if (ieq r12.1 r13.1)=true then
  (if (r12.2.2==r13.2.2)=true then
  ((Q02 r12.2.1 r13.2.1).bind fun r169=>
  some (r169))
  else
  some (false))
  else
  some (false))
  else
  (if (!r12.2.2)=true then
  (if (ieq r12.1 r13.1)=true then
  (if (r12.2.2==r13.2.2)=true then
  ((Q02 r12.2.1 r13.2.1).bind fun r179=>
  some (r179))
  else
  some (false))
  else
  some (false))
  else
  ((Q16 n p1).bind fun r181=>
  ((Q37 n r11.1 r11.2.1 r181.2.2.2.2 r11.2.2.2.2).bind fun r189=>
  (if r189=true then
  ((Q19 n r11.1 r11.2.1 r11.2.2.1 r11.2.2.2.1 r181.2.2.2.2).bind fun r191=>
  (if r191.2.2=true then
  some (ieq r191.1 r12.1)
  else
  some (false)))
  else
  ((Q22 n r11.1 r11.2.1 2).bind fun r195=>
  ((forL (fun k413 x414 (s407:Unit)=>
  ((((Q44 n r11.1 r11.2.1 r11.2.2.1 x414).bind fun r438=>
  ((Q37 n r11.1 r11.2.1 x414 r11.2.2.2.2).bind fun r448=>
  (if r448=true then
  (if (!ieq r438.1 r12.1)=true then
  some (Ctl.ret (Ctl.ret (false)))
  else
  some (Ctl.brk ()))
  else
  some (Ctl.brk ()))))).bind fun (o435:Ctl _ (Unit))=>match o435 with
  | .ret r=>some r
  | .go _=>none
  | .brk s434=>
  some (Ctl.go ()))) 0 r195.1 ()).bind fun (o406:Ctl _ (Unit))=>match o406 with
  | .ret r=>some r
  | .go _=>none
  | .brk s417=>
  some (true))))))))))))))))
end Go.Proofs.YtjgapphpbkapmaaGreat
