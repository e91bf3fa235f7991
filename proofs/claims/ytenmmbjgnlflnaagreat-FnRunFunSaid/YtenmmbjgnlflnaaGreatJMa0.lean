import Derived.Test.YtenmmbjgnlflnaaGreatJMir
set_option linter.unusedSimpArgs false
set_option linter.unusedVariables false
namespace Go.Proofs.YtenmmbjgnlflnaaGreat
open Go Go.RowKit
def Q4a (n:Nat)(p0:(List Q2))(p1:Q3)(p2:Q0):Option (Bool):=
  ((Q27 n p0 p1).bind fun r7=>
  (if r7=true then
  ((Q12 n p0 p1 p2).bind fun r9=>
  some (r9))
  else
  some (false)))
def Q2v (n:Nat)(p0:(List Int)):Option (Bool):=
  (if (ilt 1048576 (lenZ p0.length))=true then
  some (true)
  else
  ((Q1n n p0).bind fun r3=>
  ((Q37 n r3.1 r3.2.1 r3.2.2.1 r3.2.2.2.1 r3.2.2.2.2).bind fun r4=>
  ((Q45 n r3.1 r3.2.1 r3.2.2.1 r3.2.2.2.1 r3.2.2.2.2).bind fun r5=>
  (if (!ieq r4.2 r5.2)=true then
  (if (ieq r4.2 r5.2)=true then
  ((W2 n r4.1 r5.1).bind fun r93=>
  some (r93))
  else
  some (false))
  else
  ((W2 n r4.1 r5.1).bind fun r95=>
  (if (!r95)=true then
  (if (ieq r4.2 r5.2)=true then
  ((W2 n r4.1 r5.1).bind fun r101=>
  some (r101))
  else
  some (false))
  else
  (if (!ieq r4.2 0)=true then
  (if (ieq r4.2 r5.2)=true then
  ((W2 n r4.1 r5.1).bind fun r109=>
  some (r109))
  else
  some (false))
  else
  ((idx r3.2.1 r3.2.2.1).bind fun x111=>
  ((Q4a n r3.1 x111.typ.res r4.1).bind fun r112=>
  some (r112)))))))))))
end Go.Proofs.YtenmmbjgnlflnaaGreat
