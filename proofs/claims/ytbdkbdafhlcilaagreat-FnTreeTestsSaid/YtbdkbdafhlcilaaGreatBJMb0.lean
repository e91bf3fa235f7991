import Derived.Test.YtbdkbdafhlcilaaGreatBJMir
import Derived.Test.YtbdkbdafhlcilaaGreatBJDat
import Derived.Test.YtbdkbdafhlcilaaGreatBJE1
import Derived.Test.YtbdkbdafhlcilaaGreatBJE0
set_option linter.unusedSimpArgs false
set_option linter.unusedVariables false
namespace Go.Proofs.YtbdkbdafhlcilaaGreat
open Go Go.RowKit
def Q1o : Nat → Z7 → Q1 → Option (Q1 × Z7)
 | 0, _, _ => none
 | n + 1, p0, p1 =>
  ((app [] p1.kids).bind fun x1 =>
  ((((Z4 p0 24).bind fun r24 =>
  (if (ieq r24.1 0) = true then
  ((X3 r24.2 [0, 1, (-1), 9, (-2)]).bind fun r26 =>
  some (Ctl.brk (r26.2, r26.1, p1.n, p1.kids)))
  else
  (if (ieq r24.1 1) = true then
  ((X3 r24.2 [10, (-1), 1]).bind fun r29 =>
  some (Ctl.brk (r29.2, p1.ctor, r29.1, p1.kids)))
  else
  (if (ieq r24.1 2) = true then
  ((app p1.kids [(Q1.mk (-1) 0 [])]).bind fun x32 =>
  some (Ctl.brk (r24.2, p1.ctor, p1.n, (p1.kids ++ [(Q1.mk (-1) 0 [])]))))
  else
  (if (ieq r24.1 3) = true then
  (if (ilt 0 (lenZ p1.kids.length)) = true then
  ((idx p1.kids 0).bind fun x35 =>
  ((Q1o n r24.2 x35).bind fun r36 =>
  ((Q1o n r36.2 r36.1).bind fun r37 =>
  ((setI p1.kids 0 r37.1).bind fun x38 =>
  some (Ctl.brk (r37.2, p1.ctor, p1.n, x38))))))
  else
  some (Ctl.brk (r24.2, p1.ctor, p1.n, p1.kids)))
  else
  some (Ctl.brk (r24.2, p1.ctor, p1.n, p1.kids)))))))).bind fun (o21 : Ctl _ (Z7 × Int × Int × (List Q1))) => match o21 with
  | .ret r => some r
  | .go _ => none
  | .brk s20 =>
  some (((Q1.mk s20.2.1 s20.2.2.1 s20.2.2.2), s20.1))))
def Q1w : Nat → (List Q3) → Q5 → Q1 → Int → Bool → Int → Option (Bool × Int)
 | 0, _, _, _, _, _, _ => none
 | n + 1, p0, p1, p2, p3, p4, p5 =>
  (if (ilt 60 (wadd .i64 p5 1)) = true then
  some ((false, wadd .i64 p5 1))
  else
  (if (ilt 10 p3) = true then
  some ((false, wadd .i64 p5 1))
  else
  (((if p4 = true then
  (if (ieq p2.ctor (-2)) = true then
  (if (ieq p2.n 0) = true then
  some (Ctl.ret ((ieq (lenZ p2.kids.length) 0, wadd .i64 p5 1)))
  else
  some (Ctl.ret ((false, wadd .i64 p5 1))))
  else
  (if (ieq p1.data (-1)) = true then
  (if (ieq p2.ctor (-1)) = true then
  ((V7 p2.n 0 9).bind fun r208 =>
  (if r208 = true then
  some (Ctl.ret ((ieq (lenZ p2.kids.length) 0, wadd .i64 p5 1)))
  else
  some (Ctl.ret ((false, wadd .i64 p5 1)))))
  else
  some (Ctl.ret ((false, wadd .i64 p5 1))))
  else
  (if (!ieq p2.n 0) = true then
  some (Ctl.ret ((false, wadd .i64 p5 1)))
  else
  ((Q0w p0 p1).bind fun r224 =>
  ((Q05 r224 p2.ctor).bind fun r225 =>
  (if (!r225) = true then
  some (Ctl.ret ((false, wadd .i64 p5 1)))
  else
  some (Ctl.brk ())))))))
  else
  (if (ieq p1.data (-1)) = true then
  (if (ieq p2.ctor (-1)) = true then
  ((V7 p2.n 0 9).bind fun r236 =>
  (if r236 = true then
  some (Ctl.ret ((ieq (lenZ p2.kids.length) 0, wadd .i64 p5 1)))
  else
  some (Ctl.ret ((false, wadd .i64 p5 1)))))
  else
  some (Ctl.ret ((false, wadd .i64 p5 1))))
  else
  (if (!ieq p2.n 0) = true then
  some (Ctl.ret ((false, wadd .i64 p5 1)))
  else
  ((Q0w p0 p1).bind fun r252 =>
  ((Q05 r252 p2.ctor).bind fun r253 =>
  (if (!r253) = true then
  some (Ctl.ret ((false, wadd .i64 p5 1)))
  else
  some (Ctl.brk ())))))))).bind fun (o133 : Ctl _ (Unit)) => match o133 with
  | .ret r => some r
  | .go _ => none
  | .brk s132 =>
  ((Q0x p0 p1 p2.ctor).bind fun r257 =>
  (if (!ieq (lenZ r257.length) (lenZ p2.kids.length)) = true then
  some ((false, wadd .i64 p5 1))
  else
  ((forL (fun k339 x340 (s333 : Int) =>
  ((idx r257 (k339 : Int)).bind fun x348 =>
  ((Q1w n p0 x348 x340 (wadd .i64 p3 1) p4 s333).bind fun r349 =>
  (if (!r349.1) = true then
  some (Ctl.ret ((false, r349.2)))
  else
  some (Ctl.go r349.2))))) 0 p2.kids (wadd .i64 p5 1)).bind fun (o332 : Ctl _ (Int)) => match o332 with
  | .ret r => some r
  | .go _ => none
  | .brk s343 =>
  some ((true, s343))))))))
def Q4f (n : Nat) (p0 : (List Q3)) (p1 : Q5) (p2 : Q1) : Option (Bool) :=
  ((Q1w n p0 p1 p2 1 false 0).bind fun r1 =>
  some (r1.1))
def Q2z : Nat → (List Q3) → Q5 → Q1 → Int → Option (Bool)
 | 0, _, _, _, _ => none
 | n + 1, p0, p1, p2, p3 =>
  (if (ilt p3 1) = true then
  some (false)
  else
  (if (ieq p1.data (-1)) = true then
  (if (ieq p2.ctor (-1)) = true then
  (if (ile 0 p2.n) = true then
  (if (ile p2.n 9) = true then
  some (ieq (lenZ p2.kids.length) 0)
  else
  some (false))
  else
  some (false))
  else
  some (false))
  else
  (if (!ieq p2.n 0) = true then
  some (false)
  else
  ((Q0l p0 p1).bind fun r46 =>
  ((Q4n r46 p2.ctor).bind fun r47 =>
  (if (!r47) = true then
  some (false)
  else
  ((Q0f p0 p1 p2.ctor).bind fun r49 =>
  (if (!ieq (lenZ p2.kids.length) (lenZ r49.length)) = true then
  some (false)
  else
  ((forL (fun k129 x130 (s123 : Unit) =>
  ((idx p2.kids (k129 : Int)).bind fun x138 =>
  ((Q2z n p0 x130 x138 (wsub .i64 p3 1)).bind fun r139 =>
  (if (!r139) = true then
  some (Ctl.ret (false))
  else
  some (Ctl.go ()))))) 0 r49 ()).bind fun (o122 : Ctl _ (Unit)) => match o122 with
  | .ret r => some r
  | .go _ => none
  | .brk s133 =>
  some (true))))))))))
def Q3g : Nat → Q1 → Int → Option (Int)
 | 0, _, _ => none
 | n + 1, p0, p1 =>
  ((forL (fun k94 x95 (s88 : Int) =>
  (if (ile s88 p1) = true then
  ((Q3g n x95 (wsub .i64 p1 s88)).bind fun r103 =>
  some (Ctl.go (wadd .i64 s88 r103)))
  else
  some (Ctl.brk s88))) 0 p0.kids 1).bind fun (o87 : Ctl _ (Int)) => match o87 with
  | .ret r => some r
  | .go _ => none
  | .brk s98 =>
  some (s98))
def Q7t (n : Nat) (p0 : (List Q3)) (p1 : Q5) (p2 : Q1) : Option (Bool) :=
  ((Q2z n p0 p1 p2 10).bind fun r7 =>
  (if r7 = true then
  ((Q3g n p2 60).bind fun r9 =>
  some (ile r9 60))
  else
  some (false)))
def Q7d (n : Nat) (p0 : (List Int)) : Option ((List Q3) × Q5 × (List Q6) × Int) :=
  ((Q03 n p0).bind fun r1 =>
  ((Q0u p0).bind fun r2 =>
  ((X3 r2 [0, 1, 2, 0, 1, 2, 3, (-1)]).bind fun r3 =>
  some ((r1.1, r1.2.1, r1.2.2, r3.1)))))
def Q2h (p0 : Z9) : Option ((List Z9)) :=
  ((forL (fun k50 x51 (s44 : (List Z9)) =>
  ((app s44 [x51.tree]).bind fun x56 =>
  some (Ctl.go x56))) 0 p0.branches []).bind fun (o43 : Ctl _ ((List Z9))) => match o43 with
  | .ret r => some r
  | .go _ => none
  | .brk s54 =>
  ((app s54 p0.else_).bind fun x57 =>
  some (x57)))
def Q2i : Nat → Z9 → Option (Int)
 | 0, _ => none
 | n + 1, p0 =>
  ((Q2h p0).bind fun r37 =>
  ((forL (fun k63 x64 (s57 : Int) =>
  ((Q2i n x64).bind fun r70 =>
  some (Ctl.go (wadd .i64 s57 r70)))) 0 r37 1).bind fun (o56 : Ctl _ (Int)) => match o56 with
  | .ret r => some r
  | .go _ => none
  | .brk s67 =>
  some (s67)))
def Q33 (n : Nat) (p0 : (List Int)) : Option ((List Q3) × Q5 × (List Q6) × Int × Q1) :=
  ((Q0u p0).bind fun r1 =>
  ((Q25 n r1).bind fun r2 =>
  ((Q3n n r2.2.2.2.2 r2.2.2.1).bind fun r3 =>
  ((X3 r3.2 [0, 1, 2, 0, 3]).bind fun r4 =>
  ((Q1o n r4.2 r2.2.2.2.1).bind fun r5 =>
  some ((r2.1, r2.2.1, r3.1, r4.1, r5.1)))))))
def Q5c (n : Nat) (p0 : (List Q3)) (p1 : Q5) (p2 : (List Q6)) (p3 : Int) (p4 : Q1) : Option (Int × (List J7) × Int) :=
  ((W9 n p0 p1 p2 p3).bind fun r1 =>
  (if (!r1.2) = true then
  some (((-1), [], (-1)))
  else
  ((Q4f n p0 p1 p4).bind fun r21 =>
  (if (!r21) = true then
  some (((-1), [], (-1)))
  else
  ((Q3i n r1.1 p2 p4).bind fun r23 =>
  some ((r23.1, r23.2.1, r23.2.2)))))))
def Q5a (n : Nat) (p0 : (List Q3)) (p1 : Q5) (p2 : (List Q6)) (p3 : Int) (p4 : Q1) : Option (Int × (List J7) × Int) :=
  ((J2 n p0 p1 p2 p3).bind fun r1 =>
  (if (!r1.2) = true then
  some (((-1), [], (-1)))
  else
  ((Q7t n p0 p1 p4).bind fun r21 =>
  (if (!r21) = true then
  some (((-1), [], (-1)))
  else
  ((Q4k n p2 r1.1 p4).bind fun r23 =>
  some ((r23.1, r23.2.1, r23.2.2)))))))
def Q7c (n : Nat) (p0 : (List Int)) : Option (Z9) :=
  ((Q7d n p0).bind fun r1 =>
  ((J2 n r1.1 r1.2.1 r1.2.2.1 r1.2.2.2).bind fun r2 =>
  some (r2.1)))
def Q3k (n : Nat) (p0 : (List Int)) : Option (Z9) :=
  ((Q7c n p0).bind fun r1 =>
  some (r1))
def J0 : Nat → Z9 → Option (Int)
 | 0, _ => none
 | n + 1, p0 =>
  ((Q2h p0).bind fun r37 =>
  ((forL (fun k63 x64 (s57 : Int) =>
  ((J0 n x64).bind fun r70 =>
  some (Ctl.go (imax s57 r70)))) 0 r37 0).bind fun (o56 : Ctl _ (Int)) => match o56 with
  | .ret r => some r
  | .go _ => none
  | .brk s67 =>
  (((if (ieq p0.op 2) = true then
  some (Ctl.brk (wadd .i64 s67 1))
  else
  some (Ctl.brk s67))).bind fun (o74 : Ctl _ (Int)) => match o74 with
  | .ret r => some r
  | .go _ => none
  | .brk s73 =>
  some (s73))))
def Q02 : Nat → Z9 → Option (Int)
 | 0, _ => none
 | n + 1, p0 =>
  ((forL (fun k90 x91 (s84 : Int) =>
  ((((Q02 n x91.tree).bind fun r102 =>
  (if (ilt s84 r102) = true then
  some (Ctl.brk r102)
  else
  some (Ctl.brk s84)))).bind fun (o99 : Ctl _ (Int)) => match o99 with
  | .ret r => some r
  | .go _ => none
  | .brk s98 =>
  some (Ctl.go s98))) 0 p0.branches 0).bind fun (o83 : Ctl _ (Int)) => match o83 with
  | .ret r => some r
  | .go _ => none
  | .brk s94 =>
  ((forL (fun k194 x195 (s188 : Int) =>
  ((((Q02 n x195).bind fun r206 =>
  (if (ilt s188 r206) = true then
  some (Ctl.brk r206)
  else
  some (Ctl.brk s188)))).bind fun (o203 : Ctl _ (Int)) => match o203 with
  | .ret r => some r
  | .go _ => none
  | .brk s202 =>
  some (Ctl.go s202))) 0 p0.else_ s94).bind fun (o187 : Ctl _ (Int)) => match o187 with
  | .ret r => some r
  | .go _ => none
  | .brk s198 =>
  (if (ieq p0.op 2) = true then
  some (wadd .i64 s198 1)
  else
  some (s198))))
def Q1s (n : Nat) (p0 : (List Int)) (p1 : (List Int)) : Option (Bool) :=
  (if (ilt 1048576 (lenZ p0.length)) = true then
  some (true)
  else
  (if (ilt 1048576 (lenZ p1.length)) = true then
  some (true)
  else
  ((Q33 n p0).bind fun r11 =>
  ((Q5c n r11.1 r11.2.1 r11.2.2.1 r11.2.2.2.1 r11.2.2.2.2).bind fun r12 =>
  ((Q5a n r11.1 r11.2.1 r11.2.2.1 r11.2.2.2.1 r11.2.2.2.2).bind fun r13 =>
  ((W9 n r11.1 r11.2.1 r11.2.2.1 r11.2.2.2.1).bind fun r14 =>
  ((Q3k n p1).bind fun r15 =>
  (if (!ieq r12.1 r13.1) = true then
  (if (ieq r12.1 r13.1) = true then
  (if (ieq r12.2.2 r13.2.2) = true then
  ((J0 n r15).bind fun r217 =>
  ((Q02 n r15).bind fun r218 =>
  some (ieq r217 r218)))
  else
  some (false))
  else
  some (false))
  else
  (if (!ieq r12.2.2 r13.2.2) = true then
  (if (ieq r12.1 r13.1) = true then
  (if (ieq r12.2.2 r13.2.2) = true then
  ((J0 n r15).bind fun r230 =>
  ((Q02 n r15).bind fun r231 =>
  some (ieq r230 r231)))
  else
  some (false))
  else
  some (false))
  else
  ((J0 n r15).bind fun r234 =>
  ((Q02 n r15).bind fun r235 =>
  (if (!ieq r234 r235) = true then
  (if (ieq r12.1 r13.1) = true then
  (if (ieq r12.2.2 r13.2.2) = true then
  ((J0 n r15).bind fun r245 =>
  ((Q02 n r15).bind fun r246 =>
  some (ieq r245 r246)))
  else
  some (false))
  else
  some (false))
  else
  (if (!r14.2) = true then
  (if (ieq r12.1 r13.1) = true then
  (if (ieq r12.2.2 r13.2.2) = true then
  ((J0 n r15).bind fun r260 =>
  ((Q02 n r15).bind fun r261 =>
  some (ieq r260 r261)))
  else
  some (false))
  else
  some (false))
  else
  ((J0 n r14.1).bind fun r272 =>
  (if (ile r12.2.2 r272) = true then
  ((J0 n r14.1).bind fun r274 =>
  ((Q2i n r14.1).bind fun r275 =>
  some (ile r274 r275)))
  else
  some (false))))))))))))))))
end Go.Proofs.YtbdkbdafhlcilaaGreat
