import Derived.Test.YtgjpamkllimhdaaGreatJMir
set_option linter.unusedSimpArgs false
set_option linter.unusedVariables false
namespace Go.Proofs.YtgjpamkllimhdaaGreat
open Go Go.RowKit
def Q0z (n:Nat)(p0:(List Int)):Option ((List Q4)×Q6×(List Q3)):=
  ((Q1h p0).bind fun r1=>
  ((Q2p n r1).bind fun r2=>
  (((if (ilt 0 (lenZ r2.2.2.1.length))=true then
  ((Z7 r2.2.2.2.2 4).bind fun r35=>
  (if (ieq r35.1 0)=true then
  ((Q2o).bind fun r37=>
  ((app r2.2.2.1 [(Q3.mk r37 (Q37.mk 0 0 0))]).bind fun x38=>
  some (Ctl.brk (r35.2,x38))))
  else
  some (Ctl.brk (r35.2,r2.2.2.1))))
  else
  some (Ctl.brk (r2.2.2.2.2,r2.2.2.1)))).bind fun (o21:Ctl _ (Z9×(List Q3)))=>match o21 with
  | .ret r=>some r
  | .go _=>none
  | .brk s20=>
  ((Q4i n s20.1 s20.2).bind fun r41=>
  some ((r2.1,r2.2.1,r41.1))))))
def Q0t (n:Nat)(p0:(List Int)):Option ((List Q4)×Q6×(List Q3)):=
  ((Q1h p0).bind fun r1=>
  ((Q0z n p0).bind fun r2=>
  (((if (ilt 0 (lenZ r2.2.2.length))=true then
  (if (ilt (lenZ r2.2.2.length) 8)=true then
  ((Z7 r1 2).bind fun r44=>
  (if (ieq r44.1 0)=true then
  ((Z7 r44.2 (lenZ r2.2.2.length)).bind fun r46=>
  ((idx r2.2.2 r46.1).bind fun x47=>
  ((app r2.2.2 [x47]).bind fun x48=>
  some (Ctl.brk x48))))
  else
  some (Ctl.brk r2.2.2)))
  else
  some (Ctl.brk r2.2.2))
  else
  some (Ctl.brk r2.2.2))).bind fun (o26:Ctl _ ((List Q3)))=>match o26 with
  | .ret r=>some r
  | .go _=>none
  | .brk s25=>
  some ((r2.1,r2.2.1,s25)))))
def Q35 (n:Nat)(p0:(List Int)):Option ((List Q4)×Q6×(List Q3)×Int×Int):=
  ((Q0t n p0).bind fun r1=>
  ((Q1h p0).bind fun r2=>
  ((X8 r2 [0,1,2,0,3]).bind fun r3=>
  ((X8 r3.2 [2,1,3,2,0,(-1)]).bind fun r4=>
  some ((r1.1,r1.2.1,r1.2.2,r3.1,r4.1))))))
def Q0n:Nat→(List Q4)→Q6→Int→Option (Int)
 | 0,_,_,_=>none
 | n+1,p0,p1,p2=>
  (if (ieq p2 0)=true then
  some (0)
  else
  (if (ieq p1.data (-1))=true then
  some (10)
  else
  ((Q14 p0 p1).bind fun r461=>
  ((forL (fun k767 x768 (s761:Int)=>
  ((Q15 p0 p1 x768).bind fun r880=>
  ((forL (fun k906 x907 (s900:Int)=>
  ((Q0n n p0 x907 (wsub .i64 p2 1)).bind fun r913=>
  some (Ctl.go (imin (wmul .i64 s900 r913) 401)))) 0 r880 1).bind fun (o899:Ctl _ (Int))=>match o899 with
  | .ret r=>some r
  | .go _=>none
  | .brk s910=>
  some (Ctl.go (imin (wadd .i64 s761 s910) 401))))) 0 r461 0).bind fun (o760:Ctl _ (Int))=>match o760 with
  | .ret r=>some r
  | .go _=>none
  | .brk s771=>
  some (s771)))))
def Q8s (p0:Int):Option (Q1):=
  some ((Q1.mk (-1) p0 []))
def Q5t (n:Nat)(p0:Q6)(q0:(List Q4))(q1:Int):Option (Bool):=
  ((Q0n n q0 p0 (wsub .i64 q1 1)).bind fun r1=>
  some (ieq r1 0))
def Q1l (p0:(List Q1)):Option ((List Q1)):=
  ((app [] p0).bind fun x3=>
  some (p0))
def Q3s:Nat→(List Q4)→Q6→Int→Option ((List Q1))
 | 0,_,_,_=>none
 | n+1,p0,p1,p2=>
  (if (ieq p2 0)=true then
  some ([])
  else
  (if (ieq p1.data (-1))=true then
  ((whileL (fun (s138:(List Q1)×Int)=>
  (if (ilt s138.2 10)=true then
  ((Q8s s138.2).bind fun r154=>
  ((app s138.1 [r154]).bind fun x155=>
  some (Ctl.go (x155,wadd .i64 s138.2 1))))
  else
  some (Ctl.brk (s138.1,s138.2)))) n ([],0)).bind fun (o137:Ctl _ ((List Q1)×Int))=>match o137 with
  | .ret r=>some r
  | .go _=>none
  | .brk s148=>
  some (s148.1))
  else
  ((Q14 p0 p1).bind fun r43567=>
  ((forL (fun k72509 x72510 (s72503:(List Q1))=>
  ((((Q15 p0 p1 x72510).bind fun r79747=>
  ((Q0d r79747 (fun a0=>Q5t n a0 p0 p2)).bind fun r79751=>
  (if r79751=true then
  some (Ctl.brk s72503)
  else
  ((forL (fun k85772 x85773 (s85766:(List Q1))=>
  ((Q3s n p0 x85773 (wsub .i64 p2 1)).bind fun r86375=>
  ((forL (fun k86875 x86876 (s86869:(List Q1))=>
  ((forL (fun k86959 x86960 (s86953:(List Q1))=>
  ((Q1l x86876.kids).bind fun r86968=>
  ((app r86968 [x86960]).bind fun x86969=>
  ((app s86953 [(Q1.mk x72510 0 x86969)]).bind fun x86970=>
  some (Ctl.go (s86953++[(Q1.mk x72510 0 x86969)])))))) 0 r86375 s86869).bind fun (o86952:Ctl _ ((List Q1)))=>match o86952 with
  | .ret r=>some r
  | .go _=>none
  | .brk s86963=>
  some (Ctl.go s86963))) 0 s85766 []).bind fun (o86868:Ctl _ ((List Q1)))=>match o86868 with
  | .ret r=>some r
  | .go _=>none
  | .brk s86879=>
  some (Ctl.go s86879)))) 0 r79747 [(Q1.mk x72510 0 [])]).bind fun (o85765:Ctl _ ((List Q1)))=>match o85765 with
  | .ret r=>some r
  | .go _=>none
  | .brk s85776=>
  ((app s72503 s85776).bind fun x86973=>
  some (Ctl.brk x86973))))))).bind fun (o79744:Ctl _ ((List Q1)))=>match o79744 with
  | .ret r=>some r
  | .go _=>none
  | .brk s79743=>
  some (Ctl.go s79743))) 0 r43567 []).bind fun (o72502:Ctl _ ((List Q1)))=>match o72502 with
  | .ret r=>some r
  | .go _=>none
  | .brk s72513=>
  some (s72513)))))
def Q0y (n:Nat)(p0:(List Q4))(p1:Q6)(p2:Int):Option ((List Q1)×Bool):=
  ((Q3j n p0 p1).bind fun r59=>
  (if (!r59)=true then
  some (([],false))
  else
  ((J0 p2 0 4).bind fun r62=>
  (if (!r62)=true then
  some (([],false))
  else
  ((Q0n n p0 p1 p2).bind fun r66=>
  (if (ilt 400 r66)=true then
  some (([],false))
  else
  ((Q3s n p0 p1 p2).bind fun r110=>
  ((forL (fun k140 x141 (s134:(List Q1))=>
  ((Q29 n x141).bind fun r148=>
  ((app s134 [r148]).bind fun x149=>
  some (Ctl.go x149)))) 0 r110 []).bind fun (o133:Ctl _ ((List Q1)))=>match o133 with
  | .ret r=>some r
  | .go _=>none
  | .brk s144=>
  some ((s144,true))))))))))
def Q36 (n:Nat)(p0:(List Q4))(p1:Q6)(p2:(List Q3))(p3:Int)(p4:Int):Option (Int×Bool):=
  ((W8 n p0 p1 p2 p3).bind fun r1=>
  ((Q0y n p0 p1 p4).bind fun r2=>
  (if (!r1.2)=true then
  some ((0,false))
  else
  (if (!r2.2)=true then
  some ((0,false))
  else
  ((forL (fun k72 x73 (s66:Int)=>
  ((Q49 n r1.1 p2 x73).bind fun r79=>
  some (Ctl.go (wadd .i64 s66 r79.2.2)))) 0 r2.1 0).bind fun (o65:Ctl _ (Int))=>match o65 with
  | .ret r=>some r
  | .go _=>none
  | .brk s76=>
  some ((s76,true)))))))
def Q5g (p0:(List (List Q1)))(p1:Int):Option ((List (List Q1))):=
  ((forL (fun k12480 x12481 (s12474:(List (List Q1)))=>
  ((forL (fun k13906 x13907 (s13900:(List (List Q1)))=>
  (if (ile (lenZ s13900.length) p1)=true then
  ((forL (fun k14008 x14009 (s14002:(List (List Q1)))=>
  (if (ile (lenZ s14002.length) p1)=true then
  ((app [] x13907).bind fun x14018=>
  ((app x13907 [x14009]).bind fun x14019=>
  ((app s14002 [x14019]).bind fun x14020=>
  some (Ctl.go (s14002++[x14019])))))
  else
  some (Ctl.brk s14002))) 0 x12481 s13900).bind fun (o14001:Ctl _ ((List (List Q1))))=>match o14001 with
  | .ret r=>some r
  | .go _=>none
  | .brk s14012=>
  some (Ctl.go s14012))
  else
  some (Ctl.brk s13900))) 0 s12474 []).bind fun (o13899:Ctl _ ((List (List Q1))))=>match o13899 with
  | .ret r=>some r
  | .go _=>none
  | .brk s13910=>
  some (Ctl.go s13910))) 0 p0 [[]]).bind fun (o12473:Ctl _ ((List (List Q1))))=>match o12473 with
  | .ret r=>some r
  | .go _=>none
  | .brk s12484=>
  some (s12484))
def Q4v:Nat→(List Q4)→Q6→Int→Int→Option ((List Q1))
 | 0,_,_,_,_=>none
 | n+1,p0,p1,p2,p3=>
  (if (ilt p2 1)=true then
  some ([])
  else
  (if (ieq p1.data (-1))=true then
  ((whileL (fun (s94:(List Q1)×Int)=>
  (if (ile s94.2 9)=true then
  ((app s94.1 [(Q1.mk (-1) s94.2 [])]).bind fun x108=>
  some (Ctl.go ((s94.1++[(Q1.mk (-1) s94.2 [])]),wadd .i64 s94.2 1)))
  else
  some (Ctl.brk (s94.1,s94.2)))) n ([],0)).bind fun (o93:Ctl _ ((List Q1)×Int))=>match o93 with
  | .ret r=>some r
  | .go _=>none
  | .brk s104=>
  some (s104.1))
  else
  ((Q0w p0 p1).bind fun r109=>
  ((forL (fun k1443 x1444 (s1437:(List Q1))=>
  (if (ile (lenZ s1437.length) p3)=true then
  ((Q0m p0 p1 x1444).bind fun r1576=>
  ((forL (fun k1646 x1647 (s1640:(List (List Q1)))=>
  ((Q4v n p0 x1647 (wsub .i64 p2 1) p3).bind fun r1654=>
  ((app s1640 [r1654]).bind fun x1655=>
  some (Ctl.go (s1640++[r1654]))))) 0 r1576 []).bind fun (o1639:Ctl _ ((List (List Q1))))=>match o1639 with
  | .ret r=>some r
  | .go _=>none
  | .brk s1650=>
  ((Q5g s1650 p3).bind fun r1657=>
  ((forL (fun k1691 x1692 (s1685:(List Q1))=>
  (if (ile (lenZ s1685.length) p3)=true then
  ((app s1685 [(Q1.mk x1444 0 x1692)]).bind fun x1699=>
  some (Ctl.go x1699))
  else
  some (Ctl.brk s1685))) 0 r1657 s1437).bind fun (o1684:Ctl _ ((List Q1)))=>match o1684 with
  | .ret r=>some r
  | .go _=>none
  | .brk s1695=>
  some (Ctl.go s1695)))))
  else
  some (Ctl.brk s1437))) 0 r109 []).bind fun (o1436:Ctl _ ((List Q1)))=>match o1436 with
  | .ret r=>some r
  | .go _=>none
  | .brk s1447=>
  some (s1447)))))
def Q1u (n:Nat)(p0:(List Q4))(p1:Q6)(p2:Int):Option ((List Q1)×Bool):=
  ((Q3g n p0 p1).bind fun r34=>
  (if (!r34)=true then
  some (([],false))
  else
  (if (ilt p2 0)=true then
  some (([],false))
  else
  (if (ilt 4 p2)=true then
  some (([],false))
  else
  ((Q4v n p0 p1 p2 400).bind fun r40=>
  (if (ilt 400 (lenZ r40.length))=true then
  some (([],false))
  else
  ((whileL (fun (s110:(List Q1)×Int)=>
  (if (ilt s110.2 (lenZ s110.1.length))=true then
  ((idx s110.1 s110.2).bind fun x127=>
  ((Q3q n x127).bind fun r128=>
  ((setI s110.1 s110.2 r128).bind fun x129=>
  some (Ctl.go (x129,wadd .i64 s110.2 1)))))
  else
  some (Ctl.brk (s110.1,s110.2)))) n (r40,0)).bind fun (o109:Ctl _ ((List Q1)×Int))=>match o109 with
  | .ret r=>some r
  | .go _=>none
  | .brk s120=>
  some ((s120.1,true)))))))))
def Q4l (n:Nat)(p0:(List Q4))(p1:Q6)(p2:(List Q3))(p3:Int)(p4:Int):Option (Int×Bool):=
  ((Q1c n p0 p1 p2 p3).bind fun r1=>
  ((Q1u n p0 p1 p4).bind fun r2=>
  (if (!r1.2)=true then
  some ((0,false))
  else
  (if (!r2.2)=true then
  some ((0,false))
  else
  ((forL (fun k72 x73 (s66:Int)=>
  ((Q74 n p2 r1.1 x73).bind fun r79=>
  some (Ctl.go (wadd .i64 s66 r79.2.2)))) 0 r2.1 0).bind fun (o65:Ctl _ (Int))=>match o65 with
  | .ret r=>some r
  | .go _=>none
  | .brk s76=>
  some ((s76,true)))))))
def Q5k (p0:X0):Option (Unit):=
  some (())
def Q3k (n:Nat)(p0:(List Q4))(p1:Q6)(p2:(List Q3))(p3:Int):Option (Int×Bool):=
  ((Q1b n p0 p1 p2).bind fun r1=>
  ((Q0y n p0 p1 p3).bind fun r2=>
  (if (!r1.2)=true then
  some ((0,false))
  else
  (if (!r2.2)=true then
  some ((0,false))
  else
  ((forL (fun k72 x73 (s66:Int)=>
  ((Q28 n r1.1 p2 x73 (fun a0=>Q5k a0)).bind fun r79=>
  some (Ctl.go (wadd .i64 s66 r79.2.2)))) 0 r2.1 0).bind fun (o65:Ctl _ (Int))=>match o65 with
  | .ret r=>some r
  | .go _=>none
  | .brk s76=>
  some ((s76,true)))))))
def Q3h (n:Nat)(p0:(List Q4))(p1:Q6)(p2:(List Q3))(p3:Int):Option (Int×Bool):=
  ((Q1w n p0 p1 p2).bind fun r1=>
  ((Q1u n p0 p1 p3).bind fun r2=>
  (if (!r1.2)=true then
  some ((0,false))
  else
  (if (!r2.2)=true then
  some ((0,false))
  else
  ((forL (fun k72 x73 (s66:Int)=>
  ((Q4u n p2 r1.1 x73).bind fun r79=>
  some (Ctl.go (wadd .i64 s66 (lenZ r79.2.2.length))))) 0 r2.1 0).bind fun (o65:Ctl _ (Int))=>match o65 with
  | .ret r=>some r
  | .go _=>none
  | .brk s76=>
  some ((s76,true)))))))
def Q2x (n:Nat)(p0:(List Int)):Option (Bool):=
  (if (ilt 1048576 (lenZ p0.length))=true then
  some (true)
  else
  ((Q35 n p0).bind fun r3=>
  ((Q36 n r3.1 r3.2.1 r3.2.2.1 r3.2.2.2.1 r3.2.2.2.2).bind fun r4=>
  ((Q4l n r3.1 r3.2.1 r3.2.2.1 r3.2.2.2.1 r3.2.2.2.2).bind fun r5=>
  ((Q36 n r3.1 r3.2.1 r3.2.2.1 0 r3.2.2.2.2).bind fun r6=>
  ((Q3k n r3.1 r3.2.1 r3.2.2.1 r3.2.2.2.2).bind fun r7=>
  ((Q3h n r3.1 r3.2.1 r3.2.2.1 r3.2.2.2.2).bind fun r8=>
  (if (r4.2==r5.2)=true then
  (if (ieq r4.1 r5.1)=true then
  (if (ieq r7.1 r8.1)=true then
  (if (r7.2==r8.2)=true then
  (if (!r6.2)=true then
  some (true)
  else
  (if (!r7.2)=true then
  some (true)
  else
  some (ile r6.1 r7.1)))
  else
  some (false))
  else
  some (false))
  else
  some (false))
  else
  some (false)))))))))
end Go.Proofs.YtgjpamkllimhdaaGreat
