import Derived.Test.YtfhpjeogjcfkaaaGreatSJMir
set_option linter.unusedSimpArgs false
set_option linter.unusedVariables false
namespace Go.Proofs.YtfhpjeogjcfkaaaGreat
open Go Go.RowKit
def Q0d:Nat→(List Q4)→Q1→Int→Option (Int)
 | 0,_,_,_=>none
 | n+1,p0,p1,p2=>
  (if (ieq p2 0)=true then
  some (0)
  else
  (if (ieq p1.data (-1))=true then
  some (10)
  else
  ((Q0n p0 p1).bind fun r461=>
  ((forL (fun k767 x768 (s761:Int)=>
  ((Y9 p0 p1 x768).bind fun r880=>
  ((forL (fun k906 x907 (s900:Int)=>
  ((Q0d n p0 x907 (wsub .i64 p2 1)).bind fun r913=>
  some (Ctl.go (imin (wmul .i64 s900 r913) 401)))) 0 r880 1).bind fun (o899:Ctl _ (Int))=>match o899 with
  | .ret r=>some r
  | .go _=>none
  | .brk s910=>
  some (Ctl.go (imin (wadd .i64 s761 s910) 401))))) 0 r461 0).bind fun (o760:Ctl _ (Int))=>match o760 with
  | .ret r=>some r
  | .go _=>none
  | .brk s771=>
  some (s771)))))
def Q5b (n:Nat)(p0:Q1)(q0:(List Q4))(q1:Int):Option (Bool):=
  ((Q0d n q0 p0 (wsub .i64 q1 1)).bind fun r1=>
  some (ieq r1 0))
def Q1o (p0:(List Q3)):Option ((List Q3)):=
  ((app [] p0).bind fun x3=>
  some (p0))
def Q3i:Nat→(List Q4)→Q1→Int→Option ((List Q3))
 | 0,_,_,_=>none
 | n+1,p0,p1,p2=>
  (if (ieq p2 0)=true then
  some ([])
  else
  (if (ieq p1.data (-1))=true then
  ((whileL (fun (s138:(List Q3)×Int)=>
  (if (ilt s138.2 10)=true then
  ((Q4p s138.2).bind fun r154=>
  ((app s138.1 [r154]).bind fun x155=>
  some (Ctl.go (x155,wadd .i64 s138.2 1))))
  else
  some (Ctl.brk (s138.1,s138.2)))) n ([],0)).bind fun (o137:Ctl _ ((List Q3)×Int))=>match o137 with
  | .ret r=>some r
  | .go _=>none
  | .brk s148=>
  some (s148.1))
  else
  ((Q0n p0 p1).bind fun r43567=>
  ((forL (fun k72509 x72510 (s72503:(List Q3))=>
  ((((Y9 p0 p1 x72510).bind fun r79747=>
  ((J9 r79747 (fun a0=>Q5b n a0 p0 p2)).bind fun r79751=>
  (if r79751=true then
  some (Ctl.brk s72503)
  else
  ((forL (fun k85772 x85773 (s85766:(List Q3))=>
  ((Q3i n p0 x85773 (wsub .i64 p2 1)).bind fun r86375=>
  ((forL (fun k86875 x86876 (s86869:(List Q3))=>
  ((forL (fun k86959 x86960 (s86953:(List Q3))=>
  ((Q1o x86876.kids).bind fun r86968=>
  ((app r86968 [x86960]).bind fun x86969=>
  ((app s86953 [(Q3.mk x72510 0 x86969)]).bind fun x86970=>
  some (Ctl.go (s86953++[(Q3.mk x72510 0 x86969)])))))) 0 r86375 s86869).bind fun (o86952:Ctl _ ((List Q3)))=>match o86952 with
  | .ret r=>some r
  | .go _=>none
  | .brk s86963=>
  some (Ctl.go s86963))) 0 s85766 []).bind fun (o86868:Ctl _ ((List Q3)))=>match o86868 with
  | .ret r=>some r
  | .go _=>none
  | .brk s86879=>
  some (Ctl.go s86879)))) 0 r79747 [(Q3.mk x72510 0 [])]).bind fun (o85765:Ctl _ ((List Q3)))=>match o85765 with
  | .ret r=>some r
  | .go _=>none
  | .brk s85776=>
  ((app s72503 s85776).bind fun x86973=>
  some (Ctl.brk x86973))))))).bind fun (o79744:Ctl _ ((List Q3)))=>match o79744 with
  | .ret r=>some r
  | .go _=>none
  | .brk s79743=>
  some (Ctl.go s79743))) 0 r43567 []).bind fun (o72502:Ctl _ ((List Q3)))=>match o72502 with
  | .ret r=>some r
  | .go _=>none
  | .brk s72513=>
  some (s72513)))))
def Q1f (n:Nat)(p0:(List Q4))(p1:Q1)(p2:Int):Option ((List Q3)×Bool):=
  ((Q1s n p0 p1).bind fun r59=>
  (if (!r59)=true then
  some (([],false))
  else
  ((V2 p2 0 4).bind fun r62=>
  (if (!r62)=true then
  some (([],false))
  else
  ((Q0d n p0 p1 p2).bind fun r66=>
  (if (ilt 400 r66)=true then
  some (([],false))
  else
  ((Q3i n p0 p1 p2).bind fun r110=>
  ((forL (fun k140 x141 (s134:(List Q3))=>
  ((Q2c n x141).bind fun r148=>
  ((app s134 [r148]).bind fun x149=>
  some (Ctl.go x149)))) 0 r110 []).bind fun (o133:Ctl _ ((List Q3)))=>match o133 with
  | .ret r=>some r
  | .go _=>none
  | .brk s144=>
  some ((s144,true))))))))))
def Q3w:Nat→Q3→Option (Int)
 | 0,_=>none
 | n+1,p0=>
  ((forL (fun k60 x61 (s54:Int)=>
  ((Q3w n x61).bind fun r67=>
  some (Ctl.go (imax s54 r67)))) 0 p0.kids 0).bind fun (o53:Ctl _ (Int))=>match o53 with
  | .ret r=>some r
  | .go _=>none
  | .brk s64=>
  some (wadd .i64 s64 1))
def Q22 (n:Nat)(p0:(List Int)):Option (Bool):=
  (if (ilt 1048576 (lenZ p0.length))=true then
  some (true)
  else
  ((Q0j n p0).bind fun r3=>
  ((Q1g n r3.1 r3.2.1 r3.2.2).bind fun r4=>
  ((Q1a n r3.1 r3.2.1 r3.2.2).bind fun r5=>
  ((Q1f n r3.1 r3.2.1 3).bind fun r6=>
  (if (!(r4.2==r5.2))=true then
  (if (r4.2==r5.2)=true then
  some (ieq (lenZ r4.1.length) (lenZ r5.1.length))
  else
  some (false))
  else
  (if (!ieq (lenZ r4.1.length) (lenZ r5.1.length))=true then
  (if (r4.2==r5.2)=true then
  some (ieq (lenZ r4.1.length) (lenZ r5.1.length))
  else
  some (false))
  else
  (if (!r4.2)=true then
  (if (r4.2==r5.2)=true then
  some (ieq (lenZ r4.1.length) (lenZ r5.1.length))
  else
  some (false))
  else
  (if (!r6.2)=true then
  (if (r4.2==r5.2)=true then
  some (ieq (lenZ r4.1.length) (lenZ r5.1.length))
  else
  some (false))
  else
  ((Q0l n r3.1 r3.2.1 r3.2.2 r6.1).bind fun r61=>
  ((forL (fun k369 x370 (s363:Unit)=>
  ((((Q23 n r3.1 r3.2.1 r3.2.2 x370).bind fun r403=>
  (if (ile 0 r403.1)=true then
  ((Q3w n x370).bind fun r420=>
  (if (ile r420 3)=true then
  ((Q5a r61 r403.1).bind fun r422=>
  (if (!r422)=true then
  some (Ctl.ret (Ctl.ret (false)))
  else
  some (Ctl.brk ())))
  else
  some (Ctl.brk ())))
  else
  some (Ctl.brk ())))).bind fun (o400:Ctl _ (Unit))=>match o400 with
  | .ret r=>some r
  | .go _=>none
  | .brk s399=>
  some (Ctl.go ()))) 0 r4.1 ()).bind fun (o362:Ctl _ (Unit))=>match o362 with
  | .ret r=>some r
  | .go _=>none
  | .brk s373=>
  some (true))))))))))))
end Go.Proofs.YtfhpjeogjcfkaaaGreat
