import Derived.Test.YtenmmbjgnlflnaaGreatJMir
set_option linter.unusedSimpArgs false
set_option linter.unusedVariables false
namespace Go.Proofs.YtenmmbjgnlflnaaGreat
open Go Go.RowKit
def Q26 (n:Nat)(p0:(List Int)):Option (Bool):=
  (if (ilt 1048576 (lenZ p0.length))=true then
  some (true)
  else
  ((Q1n n p0).bind fun r3=>
  ((Q37 n r3.1 r3.2.1 r3.2.2.1 r3.2.2.2.1 r3.2.2.2.2).bind fun r4=>
  ((Q45 n r3.1 r3.2.1 r3.2.2.1 r3.2.2.2.1 r3.2.2.2.2).bind fun r5=>
  (if (!ieq r4.2 r5.2)=true then
  (if (ieq r4.2 r5.2)=true then
  ((W2 n r4.1 r5.1).bind fun r121=>
  some (r121))
  else
  some (false))
  else
  ((W2 n r4.1 r5.1).bind fun r123=>
  (if (!r123)=true then
  (if (ieq r4.2 r5.2)=true then
  ((W2 n r4.1 r5.1).bind fun r129=>
  some (r129))
  else
  some (false))
  else
  (if (ieq r4.2 5)=true then
  (if (ieq r4.2 r5.2)=true then
  ((W2 n r4.1 r5.1).bind fun r137=>
  some (r137))
  else
  some (false))
  else
  (if (ieq r4.2 2)=true then
  (if (ieq r4.2 r5.2)=true then
  ((W2 n r4.1 r5.1).bind fun r145=>
  some (r145))
  else
  some (false))
  else
  ((Q37 n r3.1 r3.2.1 r3.2.2.1 r3.2.2.2.1 300).bind fun r147=>
  (if (ieq r147.2 r4.2)=true then
  ((W2 n r4.1 r147.1).bind fun r152=>
  some (r152))
  else
  some (false))))))))))))
end Go.Proofs.YtenmmbjgnlflnaaGreat
