import Derived.Test.YtbdkbdafhlcilaaGreatAJMir
import Derived.Test.YtbdkbdafhlcilaaGreatAJDat
import Derived.Test.YtbdkbdafhlcilaaGreatAJE1
import Derived.Test.YtbdkbdafhlcilaaGreatAJE0
set_option linter.unusedSimpArgs false
set_option linter.unusedVariables false
namespace Go.Proofs.YtbdkbdafhlcilaaGreat
open Go Go.RowKit
def Q1l (n : Nat) (p0 : (List Q3)) (p1 : Q2) (p2 : (List Q6)) : Option ((List Q0) × Bool) :=
  ((Q0j n p0 p1 p2).bind fun r4 =>
  (if (!r4) = true then
  some (([], false))
  else
  ((Q3w n p2).bind fun r6 =>
  (if (!r6.2) = true then
  some (([], false))
  else
  ((Q27 n p0).bind fun r9 =>
  ((Y5).bind fun r10 =>
  ((Q0i n r9 p1 [r10] r6.1).bind fun r11 =>
  ((Q1f n r9 p1 r11.1 r11.2).bind fun r12 =>
  some ((r12.1, r12.2))))))))))
def Q40 (n : Nat) (p0 : (List Q3)) (p1 : Q2) (p2 : (List Q6)) : Option (Bool × Bool) :=
  ((Q1l n p0 p1 p2).bind fun r1 =>
  (if r1.2 = true then
  some ((ieq (lenZ r1.1.length) 0, r1.2))
  else
  some ((false, r1.2))))
def Q3n : Nat → X4 → Option (Bool)
 | 0, _ => none
 | n + 1, p0 =>
  (if (ieq p0.op 0) = true then
  some (true)
  else
  ((forL (fun k70 x71 (s64 : Unit) =>
  ((Q3n n x71.tree).bind fun r78 =>
  (if r78 = true then
  some (Ctl.ret (true))
  else
  some (Ctl.go ())))) 0 p0.branches ()).bind fun (o63 : Ctl _ (Unit)) => match o63 with
  | .ret r => some r
  | .go _ => none
  | .brk s74 =>
  ((forL (fun k148 x149 (s142 : Unit) =>
  ((Q3n n x149).bind fun r156 =>
  (if r156 = true then
  some (Ctl.ret (true))
  else
  some (Ctl.go ())))) 0 p0.else_ ()).bind fun (o141 : Ctl _ (Unit)) => match o141 with
  | .ret r => some r
  | .go _ => none
  | .brk s152 =>
  some (false))))
def Q2j (n : Nat) (p0 : (List Int)) : Option (Bool) :=
  (if (ilt 1048576 (lenZ p0.length)) = true then
  some (true)
  else
  ((Q09 n p0).bind fun r3 =>
  ((W8 n r3.1 r3.2.1 r3.2.2.1 r3.2.2.2).bind fun r4 =>
  ((Q0h n r3.1 r3.2.1 r3.2.2.1 r3.2.2.2).bind fun r5 =>
  (if (!(r4.2 == r5.2)) = true then
  (if (r4.2 == r5.2) = true then
  ((Q04 n r4.1 r5.1).bind fun r93 =>
  some (r93))
  else
  some (false))
  else
  ((Q04 n r4.1 r5.1).bind fun r95 =>
  (if (!r95) = true then
  (if (r4.2 == r5.2) = true then
  ((Q04 n r4.1 r5.1).bind fun r101 =>
  some (r101))
  else
  some (false))
  else
  (if (!r4.2) = true then
  (if (r4.2 == r5.2) = true then
  ((Q04 n r4.1 r5.1).bind fun r109 =>
  some (r109))
  else
  some (false))
  else
  ((Q40 n r3.1 r3.2.1 r3.2.2.1).bind fun r111 =>
  (if (!r111.2) = true then
  some (true)
  else
  ((Q2y n r3.1 r3.2.1).bind fun r120 =>
  (if (!r120) = true then
  some (true)
  else
  ((Q3n n r4.1).bind fun r123 =>
  some ((r111.1 == (!r123))))))))))))))))
end Go.Proofs.YtbdkbdafhlcilaaGreat
