import Derived.Test.YtenmmbjgnlflnaaGreatBJMir
set_option linter.unusedSimpArgs false
set_option linter.unusedVariables false
namespace Go.Proofs.YtenmmbjgnlflnaaGreat
open Go Go.RowKit
def Q6i (n:Nat)(p0:(List Q4))(p1:(List GFun))(p2:Int)(p3:Q1)(p4:Int):Option (Bool):=
  ((Q0w n p0 p1).bind fun r16=>
  (if r16=true then
  (if (ile 0 p2)=true then
  (if (ilt p2 (lenZ p1.length))=true then
  (if (ile 0 p4)=true then
  (if (ile p4 300)=true then
  ((idx p1 p2).bind fun x22=>
  ((Q7u n p0 x22.typ.arg p3).bind fun r23=>
  some (r23)))
  else
  some (false))
  else
  some (false))
  else
  some (false))
  else
  some (false))
  else
  some (false)))
def Q8h (n:Nat)(p0:(List Q4))(p1:(List GFun))(p2:Int)(p3:Q1)(p4:Int):Option (Q1×Int):=
  ((Q6i n p0 p1 p2 p3 p4).bind fun r4=>
  (if (!r4)=true then
  some (((Q1.mk 0 0 []),5))
  else
  ((Q2s n (Q05.mk p0 p1 [] p4 0 0 0) p2 p3 50).bind fun r6=>
  ((Q56 n r6.1 r6.2).bind fun r7=>
  some ((r7.1,r7.2))))))
def Q3o (n:Nat)(p0:(List Int)):Option (Bool):=
  (if (ilt 1048576 (lenZ p0.length))=true then
  some (true)
  else
  ((Q2k n p0).bind fun r3=>
  ((Q5r n r3.1 r3.2.1 r3.2.2.1 r3.2.2.2.1 r3.2.2.2.2).bind fun r4=>
  ((Q8h n r3.1 r3.2.1 r3.2.2.1 r3.2.2.2.1 r3.2.2.2.2).bind fun r5=>
  (if (!ieq r4.2 r5.2)=true then
  (if (ieq r4.2 r5.2)=true then
  ((V1 n r4.1 r5.1).bind fun r93=>
  some (r93))
  else
  some (false))
  else
  ((V1 n r4.1 r5.1).bind fun r95=>
  (if (!r95)=true then
  (if (ieq r4.2 r5.2)=true then
  ((V1 n r4.1 r5.1).bind fun r101=>
  some (r101))
  else
  some (false))
  else
  (if (ieq r4.2 5)=true then
  (if (ieq r4.2 r5.2)=true then
  ((V1 n r4.1 r5.1).bind fun r109=>
  some (r109))
  else
  some (false))
  else
  ((idx r3.2.1 r3.2.2.1).bind fun x111=>
  ((Q76 n r3.1 x111.typ.arg r3.2.2.2.1).bind fun r112=>
  ((Q45 n r3.1 r3.2.1 x111.typ.res (Z1.mk 5 r3.2.2.1 0 [r112.1]) r3.2.2.2.2).bind fun r113=>
  (if r112.2=true then
  (if (ieq r113.2 5)=true then
  some (true)
  else
  (if (ieq r113.2 r4.2)=true then
  ((V1 n r4.1 r113.1).bind fun r122=>
  some (r122))
  else
  some (false)))
  else
  some (false)))))))))))))
end Go.Proofs.YtenmmbjgnlflnaaGreat
