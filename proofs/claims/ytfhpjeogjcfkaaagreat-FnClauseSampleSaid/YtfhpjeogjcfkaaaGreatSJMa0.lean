import Derived.Test.YtfhpjeogjcfkaaaGreatSJMir
set_option linter.unusedSimpArgs false
set_option linter.unusedVariables false
namespace Go.Proofs.YtfhpjeogjcfkaaaGreat
open Go Go.RowKit
def V8 (n:Nat)(p0:(List Int)):Option ((List Q4)×Q1×(List Q5)):=
  ((Q3t p0).bind fun r1=>
  ((W9 n p0).bind fun r2=>
  (((if (ilt 0 (lenZ r2.2.2.length))=true then
  (if (ilt (lenZ r2.2.2.length) 8)=true then
  ((Z4 r1 2).bind fun r44=>
  (if (ieq r44.1 0)=true then
  ((Z4 r44.2 (lenZ r2.2.2.length)).bind fun r46=>
  ((idx r2.2.2 r46.1).bind fun x47=>
  ((app r2.2.2 [x47]).bind fun x48=>
  some (Ctl.brk x48))))
  else
  some (Ctl.brk r2.2.2)))
  else
  some (Ctl.brk r2.2.2))
  else
  some (Ctl.brk r2.2.2))).bind fun (o26:Ctl _ ((List Q5)))=>match o26 with
  | .ret r=>some r
  | .go _=>none
  | .brk s25=>
  some ((r2.1,r2.2.1,s25)))))
def Q2w (n:Nat)(p0:(List Q4))(p1:Q1)(p2:(List Q5))(p3:Int):Option (Q3×Bool):=
  ((Q01 n p0 p1 p2).bind fun r34=>
  (if (!r34)=true then
  some (((Q3.mk 0 0 []),false))
  else
  (if (ilt p3 0)=true then
  some (((Q3.mk 0 0 []),false))
  else
  (if (ile (lenZ p2.length) p3)=true then
  some (((Q3.mk 0 0 []),false))
  else
  ((Q37 n p0 p1 p2 p3).bind fun r40=>
  some ((r40.1,r40.2)))))))
def Q0p (n:Nat)(p0:(List Q4))(p1:Q1)(p2:(List Q5)):Option ((List Int)×Bool):=
  ((J2 n p0 p1 p2).bind fun r4=>
  (if (!r4)=true then
  some (([],false))
  else
  ((forL (fun k117 x118 (s111:(List Int))=>
  ((((J3 n p0 p1 p2 (k117:Int)).bind fun r132=>
  (if (!r132.2)=true then
  some (Ctl.ret (Ctl.ret (([],false))))
  else
  (if (ieq (lenZ r132.1.length) 0)=true then
  ((app s111 [(k117:Int)]).bind fun x136=>
  some (Ctl.brk x136))
  else
  some (Ctl.brk s111))))).bind fun (o129:Ctl _ ((List Int)))=>match o129 with
  | .ret r=>some r
  | .go _=>none
  | .brk s128=>
  some (Ctl.go s128))) 0 p2 []).bind fun (o110:Ctl _ ((List Int)))=>match o110 with
  | .ret r=>some r
  | .go _=>none
  | .brk s121=>
  some ((s121,true)))))
def Q2j (n:Nat)(p0:(List Int)):Option ((List Q4)×Q1×(List Q5)×Int):=
  ((V8 n p0).bind fun r1=>
  ((Q3t p0).bind fun r2=>
  ((W2 r2 [0,1,2,0,1,(-1),9]).bind fun r3=>
  some ((r1.1,r1.2.1,r1.2.2,r3.1)))))
def Q1b (n:Nat)(p0:(List Int)):Option (Bool):=
  (if (ilt 1048576 (lenZ p0.length))=true then
  some (true)
  else
  ((Q2j n p0).bind fun r3=>
  ((Q03 n r3.1 r3.2.1 r3.2.2.1 r3.2.2.2).bind fun r4=>
  ((Q2w n r3.1 r3.2.1 r3.2.2.1 r3.2.2.2).bind fun r5=>
  (if (!(r4.2==r5.2))=true then
  (if (r4.2==r5.2)=true then
  ((Q06 n r4.1 r5.1).bind fun r93=>
  some (r93))
  else
  some (false))
  else
  ((Q06 n r4.1 r5.1).bind fun r95=>
  (if (!r95)=true then
  (if (r4.2==r5.2)=true then
  ((Q06 n r4.1 r5.1).bind fun r101=>
  some (r101))
  else
  some (false))
  else
  (if (!r4.2)=true then
  (if (r4.2==r5.2)=true then
  ((Q06 n r4.1 r5.1).bind fun r109=>
  some (r109))
  else
  some (false))
  else
  ((Q23 n r3.1 r3.2.1 r3.2.2.1 r4.1).bind fun r111=>
  ((Q0p n r3.1 r3.2.1 r3.2.2.1).bind fun r112=>
  (if r111.2.2=true then
  (if (ieq r111.1 r3.2.2.2)=true then
  (if (!r112.2)=true then
  some (true)
  else
  ((Q5a r112.1 r3.2.2.2).bind fun r121=>
  some ((!r121))))
  else
  some (false))
  else
  some (false))))))))))))
end Go.Proofs.YtfhpjeogjcfkaaaGreat
