import Derived.Test.YtfhpjeogjcfkaaaGreatSJMir
set_option linter.unusedSimpArgs false
set_option linter.unusedVariables false
namespace Go.Proofs.YtfhpjeogjcfkaaaGreat
open Go Go.RowKit
def Q0x (n:Nat)(p0:(List Int)):Option (Bool):=
  (if (ilt 1048576 (lenZ p0.length))=true then
  some (true)
  else
  ((Q0j n p0).bind fun r3=>
  ((Q1g n r3.1 r3.2.1 r3.2.2).bind fun r4=>
  ((Q1a n r3.1 r3.2.1 r3.2.2).bind fun r5=>
  (if (!(r4.2==r5.2))=true then
  (if (r4.2==r5.2)=true then
  some (ieq (lenZ r4.1.length) (lenZ r5.1.length))
  else
  some (false))
  else
  (if (!ieq (lenZ r4.1.length) (lenZ r5.1.length))=true then
  (if (r4.2==r5.2)=true then
  some (ieq (lenZ r4.1.length) (lenZ r5.1.length))
  else
  some (false))
  else
  (if (!r4.2)=true then
  (if (r4.2==r5.2)=true then
  some (ieq (lenZ r4.1.length) (lenZ r5.1.length))
  else
  some (false))
  else
  ((forL (fun k525 x526 (s519:Int)=>
  ((Q23 n r3.1 r3.2.1 r3.2.2 x526).bind fun r574=>
  (((if (!r574.2.2)=true then
  some (Ctl.ret (Ctl.ret (false)))
  else
  (if (ile 0 r574.1)=true then
  (if (ile r574.1 s519)=true then
  some (Ctl.ret (Ctl.ret (false)))
  else
  (if (ilt r574.1 0)=true then
  (if (ilt (k525:Int) (wsub .i64 (lenZ r4.1.length) 1))=true then
  some (Ctl.ret (Ctl.ret (false)))
  else
  some (Ctl.brk ()))
  else
  some (Ctl.brk ())))
  else
  (if (ilt r574.1 0)=true then
  (if (ilt (k525:Int) (wsub .i64 (lenZ r4.1.length) 1))=true then
  some (Ctl.ret (Ctl.ret (false)))
  else
  some (Ctl.brk ()))
  else
  some (Ctl.brk ()))))).bind fun (o595:Ctl _ (Unit))=>match o595 with
  | .ret r=>some r
  | .go _=>none
  | .brk s594=>
  some (Ctl.go r574.1)))) 0 r4.1 (-1)).bind fun (o518:Ctl _ (Int))=>match o518 with
  | .ret r=>some r
  | .go _=>none
  | .brk s529=>
  some (true)))))))))
end Go.Proofs.YtfhpjeogjcfkaaaGreat
