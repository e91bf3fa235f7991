import Derived.Test.YtenmmbjgnlflnaaGreatBJMir
set_option linter.unusedSimpArgs false
set_option linter.unusedVariables false
namespace Go.Proofs.YtenmmbjgnlflnaaGreat
open Go Go.RowKit
def Q5j:Nat→Q1→Option (Z1)
 | 0,_=>none
 | n+1,p0=>
  (if (ieq p0.ctor (-1))=true then
  some ((Z1.mk 1 p0.n 0 []))
  else
  ((forL (fun k72 x73 (s66:(List Z1))=>
  ((Q5j n x73).bind fun r80=>
  ((app s66 [r80]).bind fun x81=>
  some (Ctl.go x81)))) 0 p0.kids []).bind fun (o65:Ctl _ ((List Z1)))=>match o65 with
  | .ret r=>some r
  | .go _=>none
  | .brk s76=>
  some ((Z1.mk 3 0 p0.ctor s76))))
def Q2t:Nat→X3→(List Q4)→(List Z0)→(List Q5)→Q2→Int→Option (Z1×X3)
 | 0,_,_,_,_,_,_=>none
 | n+1,p0,p1,p2,p3,p4,p5=>
  ((Q19 n p1).bind fun r1=>
  ((forL (fun k183 x184 (s177:X3)=>
  ((Z3 s177 3).bind fun r195=>
  (if (ilt 0 r195.1)=true then
  ((Z3 r195.2 (lenZ p3.length)).bind fun r203=>
  ((idx p3 r203.1).bind fun x204=>
  ((Q3k x204.typ p4).bind fun r205=>
  (if r205=true then
  some (Ctl.ret (((Z1.mk 2 x204.var 0 []),r203.2)))
  else
  some (Ctl.go r203.2)))))
  else
  some (Ctl.brk r195.2)))) 0 p3 p0).bind fun (o176:Ctl _ (X3))=>match o176 with
  | .ret r=>some r
  | .go _=>none
  | .brk s187=>
  ((forL (fun k709 x710 (s703:X3)=>
  (if (ilt 1 p5)=true then
  ((((Q3k x710.res p4).bind fun r784=>
  (if r784=true then
  ((Q1r r1 x710.arg).bind fun r786=>
  (if (ilt 0 r786)=true then
  ((Z3 s703 3).bind fun r788=>
  (if (ieq r788.1 0)=true then
  ((Q2t n r788.2 p1 p2 p3 x710.arg (wsub .i64 p5 1)).bind fun r790=>
  some (Ctl.ret (Ctl.ret (((Z1.mk 5 (k709:Int) 0 [r790.1]),r790.2)))))
  else
  some (Ctl.brk r788.2)))
  else
  some (Ctl.brk s703)))
  else
  some (Ctl.brk s703)))).bind fun (o756:Ctl _ (X3))=>match o756 with
  | .ret r=>some r
  | .go _=>none
  | .brk s755=>
  some (Ctl.go s755))
  else
  some (Ctl.brk s703))) 0 p2 s187).bind fun (o702:Ctl _ (X3))=>match o702 with
  | .ret r=>some r
  | .go _=>none
  | .brk s713=>
  (((if (ieq p4.data (-1))=true then
  (if (ilt 1 p5)=true then
  ((Z3 s713 3).bind fun r839=>
  (if (ieq r839.1 0)=true then
  ((Q2t n r839.2 p1 p2 p3 p4 (wsub .i64 p5 1)).bind fun r841=>
  ((Q2t n r841.2 p1 p2 p3 p4 (wsub .i64 p5 1)).bind fun r842=>
  some (Ctl.ret (((Z1.mk 4 0 0 [r841.1,r842.1]),r842.2)))))
  else
  some (Ctl.brk r839.2)))
  else
  some (Ctl.brk s713))
  else
  some (Ctl.brk s713))).bind fun (o821:Ctl _ (X3))=>match o821 with
  | .ret r=>some r
  | .go _=>none
  | .brk s820=>
  (if (ilt p5 2)=true then
  ((Y7 n s820 p1 r1 p4 1).bind fun r879=>
  ((Q5j n r879.1).bind fun r880=>
  some ((r880,r879.2))))
  else
  (if (ieq p4.data (-1))=true then
  ((Y7 n s820 p1 r1 p4 1).bind fun r884=>
  ((Q5j n r884.1).bind fun r885=>
  some ((r885,r884.2))))
  else
  ((Y7 n s820 p1 r1 p4 p5).bind fun r888=>
  ((V2 p1 p4 r888.1.ctor).bind fun r889=>
  ((forL (fun k961 x962 (s955:X3×(List Z1))=>
  ((Q2t n s955.1 p1 p2 p3 x962 (wsub .i64 p5 1)).bind fun r969=>
  ((app s955.2 [r969.1]).bind fun x970=>
  some (Ctl.go (r969.2,x970))))) 0 r889 (r888.2,[])).bind fun (o954:Ctl _ (X3×(List Z1)))=>match o954 with
  | .ret r=>some r
  | .go _=>none
  | .brk s965=>
  some (((Z1.mk 3 0 r888.1.ctor s965.2),s965.1)))))))))))
def Q41 (n:Nat)(p0:(List Int)):Option ((List Q4)×(List GFun)×Q2×Z1×Int):=
  ((Q3h p0).bind fun r1=>
  ((Q69 n r1).bind fun r2=>
  ((Z3 r2.2.2 (lenZ r2.2.1.length)).bind fun r3=>
  ((idx r2.2.1 r3.1).bind fun x4=>
  ((((Q19 n r2.1).bind fun r14=>
  ((Q1r r14 x4.typ.res).bind fun r15=>
  (if (ieq r15 0)=true then
  some (Ctl.brk ((-1),0))
  else
  some (Ctl.brk (x4.typ.res.data,x4.typ.res.index)))))).bind fun (o11:Ctl _ (Int×Int))=>match o11 with
  | .ret r=>some r
  | .go _=>none
  | .brk s10=>
  ((Q1v r2.2.1).bind fun r19=>
  ((X8 r3.2 [3,2,4]).bind fun r20=>
  ((Q2t n r20.2 r2.1 r19 [] (Q2.mk s10.1 s10.2) r20.1).bind fun r21=>
  ((Q4f n r21.2 r2.2.1).bind fun r22=>
  ((Q1b n r22.2 r21.1).bind fun r23=>
  ((X8 r23.2 [300,50,3,0,(-1)]).bind fun r24=>
  some ((r2.1,r22.1,(Q2.mk s10.1 s10.2),r23.1,r24.1)))))))))))))
def Q5z (n:Nat)(p0:(List Q4))(p1:(List Z0))(p2:(List Q5))(p3:Q2)(p4:Z1):Option (Bool):=
  ((Q6j n p0 p1 p2 p3).bind fun r7=>
  (if r7=true then
  ((Q6l n p0 p1 p2 p3 p4).bind fun r9=>
  some (r9))
  else
  some (false)))
def Q6m (n:Nat)(p0:(List Q4))(p1:(List GFun))(p2:Q2)(p3:Z1)(p4:Int):Option (Q1×Int):=
  ((Q0w n p0 p1).bind fun r64=>
  (if (!r64)=true then
  some (((Q1.mk 0 0 []),5))
  else
  (if (ilt p4 0)=true then
  some (((Q1.mk 0 0 []),5))
  else
  (if (ilt 300 p4)=true then
  some (((Q1.mk 0 0 []),5))
  else
  ((Q1v p1).bind fun r71=>
  ((Q5z n p0 r71 [] p2 p3).bind fun r72=>
  (if (!r72)=true then
  some (((Q1.mk 0 0 []),5))
  else
  ((Q0u n (Q05.mk p0 p1 [] p4 0 0 0) p2 p3 [] 50).bind fun r74=>
  ((Q56 n r74.1 r74.2).bind fun r75=>
  some ((r75.1,r75.2)))))))))))
def Q35 (n:Nat)(p0:(List Int)):Option (Bool):=
  (if (ilt 1048576 (lenZ p0.length))=true then
  some (true)
  else
  ((Q41 n p0).bind fun r3=>
  ((Q45 n r3.1 r3.2.1 r3.2.2.1 r3.2.2.2.1 r3.2.2.2.2).bind fun r4=>
  ((Q6m n r3.1 r3.2.1 r3.2.2.1 r3.2.2.2.1 r3.2.2.2.2).bind fun r5=>
  (if (!ieq r4.2 r5.2)=true then
  (if (ieq r4.2 r5.2)=true then
  ((V1 n r4.1 r5.1).bind fun r93=>
  some (r93))
  else
  some (false))
  else
  ((V1 n r4.1 r5.1).bind fun r95=>
  (if (!r95)=true then
  (if (ieq r4.2 r5.2)=true then
  ((V1 n r4.1 r5.1).bind fun r101=>
  some (r101))
  else
  some (false))
  else
  (if (!ieq r4.2 0)=true then
  (if (ieq r4.2 r5.2)=true then
  ((V1 n r4.1 r5.1).bind fun r109=>
  some (r109))
  else
  some (false))
  else
  ((Q76 n r3.1 r3.2.2.1 r4.1).bind fun r111=>
  ((Q45 n r3.1 r3.2.1 r3.2.2.1 r111.1 0).bind fun r112=>
  ((Q3r n r3.1 r3.2.2.1 r4.1).bind fun r123=>
  (if r123=true then
  (if r111.2=true then
  (if (ieq r112.2 0)=true then
  ((V1 n r4.1 r112.1).bind fun r127=>
  some (r127))
  else
  some (false))
  else
  some (false))
  else
  some (false)))))))))))))
end Go.Proofs.YtenmmbjgnlflnaaGreat
