import Derived.Test.YtfhpjeogjcfkaaaGreatSJMir
set_option linter.unusedSimpArgs false
set_option linter.unusedVariables false
namespace Go.Proofs.YtfhpjeogjcfkaaaGreat
open Go Go.RowKit
def Q48 (n:Nat)(p0:(List Q4))(p1:Q1)(p2:Q3):Option (Bool):=
  ((Q1s n p0 p1).bind fun r7=>
  (if r7=true then
  ((Q25 n p0 p1 p2).bind fun r9=>
  some (r9))
  else
  some (false)))
def Q21 (n:Nat)(p0:(List Int)):Option (Bool):=
  (if (ilt 1048576 (lenZ p0.length))=true then
  some (true)
  else
  ((Q0j n p0).bind fun r3=>
  ((Q1g n r3.1 r3.2.1 r3.2.2).bind fun r4=>
  ((Q1a n r3.1 r3.2.1 r3.2.2).bind fun r5=>
  (if (!(r4.2==r5.2))=true then
  (if (r4.2==r5.2)=true then
  some (ieq (lenZ r4.1.length) (lenZ r5.1.length))
  else
  some (false))
  else
  (if (!ieq (lenZ r4.1.length) (lenZ r5.1.length))=true then
  (if (r4.2==r5.2)=true then
  some (ieq (lenZ r4.1.length) (lenZ r5.1.length))
  else
  some (false))
  else
  (if (!r4.2)=true then
  (if (r4.2==r5.2)=true then
  some (ieq (lenZ r4.1.length) (lenZ r5.1.length))
  else
  some (false))
  else
  ((forL (fun k329 x330 (s323:Unit)=>
  ((idx r5.1 (k329:Int)).bind fun x372=>
  ((Q06 n x330 x372).bind fun r373=>
  (if (!r373)=true then
  some (Ctl.ret (false))
  else
  ((Q48 n r3.1 r3.2.1 x330).bind fun r376=>
  (if (!r376)=true then
  some (Ctl.ret (false))
  else
  some (Ctl.go ()))))))) 0 r4.1 ()).bind fun (o322:Ctl _ (Unit))=>match o322 with
  | .ret r=>some r
  | .go _=>none
  | .brk s333=>
  ((Q0l n r3.1 r3.2.1 r3.2.2 r4.1).bind fun r380=>
  ((forL (fun k560 x561 (s554:Unit)=>
  ((((Q03 n r3.1 r3.2.1 r3.2.2 (k560:Int)).bind fun r582=>
  (if r582.2=true then
  ((Q5a r380 (k560:Int)).bind fun r591=>
  (if (!r591)=true then
  some (Ctl.ret (Ctl.ret (false)))
  else
  some (Ctl.brk ())))
  else
  some (Ctl.brk ())))).bind fun (o579:Ctl _ (Unit))=>match o579 with
  | .ret r=>some r
  | .go _=>none
  | .brk s578=>
  some (Ctl.go ()))) 0 r3.2.2 ()).bind fun (o553:Ctl _ (Unit))=>match o553 with
  | .ret r=>some r
  | .go _=>none
  | .brk s564=>
  some (ile (lenZ r4.1.length) (wadd .i64 (lenZ r3.2.2.length) 1))))))))))))
end Go.Proofs.YtfhpjeogjcfkaaaGreat
