import Derived.Test.YtenmmbjgnlflnaaGreatJMir
set_option linter.unusedSimpArgs false
set_option linter.unusedVariables false
namespace Go.Proofs.YtenmmbjgnlflnaaGreat
open Go Go.RowKit
def Q16 (n:Nat)(p0:(List Int)):Option ((List Q2)×(List GFun)×Int×Q0×Int):=
  ((Q3j n p0).bind fun r1=>
  some ((r1.1,r1.2.1,r1.2.2.1,r1.2.2.2.1,r1.2.2.2.2)))
def Q1r (n:Nat)(p0:(List Q2))(p1:(List GFun))(p2:Int)(p3:Q0)(p4:Int):Option (Int×Int):=
  ((Q5m n p0 p1 p2 p3 p4).bind fun r4=>
  (if (!r4)=true then
  some ((0,5))
  else
  ((Q49 n p0 p1 p4).bind fun r6=>
  ((W9 n r6 p2 p3 0).bind fun r7=>
  some ((r7.2.count,r7.2.code))))))
def Q2u (n:Nat)(p0:(List Q2))(p1:(List GFun))(p2:Int)(p3:Q0)(p4:Int):Option (Int×Int):=
  ((Q2s n p0 p1 p2 p3 p4).bind fun r4=>
  (if (!r4)=true then
  some ((0,5))
  else
  ((Q05 n (Y1.mk p0 p1 [] p4 0 0 0) p2 p3 50).bind fun r6=>
  some ((r6.1.calls,r6.1.end_)))))
def Q0w (n:Nat)(p0:(List Int)):Option (Bool):=
  (if (ilt 1048576 (lenZ p0.length))=true then
  some (true)
  else
  ((Q16 n p0).bind fun r3=>
  ((Q1r n r3.1 r3.2.1 r3.2.2.1 r3.2.2.2.1 r3.2.2.2.2).bind fun r4=>
  ((Q2u n r3.1 r3.2.1 r3.2.2.1 r3.2.2.2.1 r3.2.2.2.2).bind fun r5=>
  (if (!ieq r4.1 r5.1)=true then
  (if (ieq r4.1 r5.1)=true then
  some (ieq r4.2 r5.2)
  else
  some (false))
  else
  (if (!ieq r4.2 r5.2)=true then
  (if (ieq r4.1 r5.1)=true then
  some (ieq r4.2 r5.2)
  else
  some (false))
  else
  (if (ieq r4.2 5)=true then
  (if (ieq r4.1 r5.1)=true then
  some (ieq r4.2 r5.2)
  else
  some (false))
  else
  ((Q1r n r3.1 r3.2.1 r3.2.2.1 r3.2.2.2.1 300).bind fun r46=>
  (if (ile r4.1 r3.2.2.2.2)=true then
  (if (ile 1 r4.1==ile 1 r3.2.2.2.2)=true then
  (if (ieq r4.2 2)=true then
  (if (ieq r4.1 r3.2.2.2.2)=true then
  some (true)
  else
  (if (ieq r46.1 r4.1)=true then
  some (ieq r46.2 r4.2)
  else
  some (false)))
  else
  (if (ieq r46.1 r4.1)=true then
  some (ieq r46.2 r4.2)
  else
  some (false)))
  else
  some (false))
  else
  some (false))))))))))
end Go.Proofs.YtenmmbjgnlflnaaGreat
