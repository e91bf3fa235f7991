import Derived.Test.YtbdkbdafhlcilaaGreatAJMir
import Derived.Test.YtbdkbdafhlcilaaGreatAJDat
import Derived.Test.YtbdkbdafhlcilaaGreatAJE1
import Derived.Test.YtbdkbdafhlcilaaGreatAJE0
set_option linter.unusedSimpArgs false
set_option linter.unusedVariables false
namespace Go.Proofs.YtbdkbdafhlcilaaGreat
open Go Go.RowKit
def Q0u (n : Nat) (p0 : Q1e) (p1 : Q2) (p2 : (List Q0)) : Option ((List Q0) × Bool) :=
  ((forL (fun k100 x101 (s94 : (List Q0)) =>
  ((Q64 p2 (k100 : Int)).bind fun x111 =>
  ((Q0i n p0 p1 [x101] x111).bind fun r112 =>
  (if (!r112.2) = true then
  some (Ctl.ret (([], false)))
  else
  ((app s94 r112.1).bind fun x115 =>
  some (Ctl.go x115)))))) 0 p2 []).bind fun (o93 : Ctl _ ((List Q0))) => match o93 with
  | .ret r => some r
  | .go _ => none
  | .brk s104 =>
  some ((s104, true)))
def Q1k (n : Nat) (p0 : (List Q3)) (p1 : Q2) (p2 : (List Q6)) (p3 : Int) : Option ((List Q0) × Bool) :=
  ((Q0j n p0 p1 p2).bind fun r34 =>
  (if (!r34) = true then
  some (([], false))
  else
  ((Y7 p3 0 (wsub .i64 (lenZ p2.length) 1)).bind fun r37 =>
  (if (!r37) = true then
  some (([], false))
  else
  ((idx p2 p3).bind fun x39 =>
  ((Q4x n x39.pat).bind fun r40 =>
  ((Q64 p2 p3).bind fun x41 =>
  ((Q3w n x41).bind fun r42 =>
  (if (!r40.2) = true then
  some (([], false))
  else
  (if (!r42.2) = true then
  some (([], false))
  else
  ((Q27 n p0).bind fun r53 =>
  ((Q0u n r53 p1 r40.1).bind fun r54 =>
  (((if r54.2 = true then
  ((Q0i n r53 p1 r54.1 r42.1).bind fun r63 =>
  some (Ctl.brk (r63.1, r63.2)))
  else
  some (Ctl.brk (r54.1, r54.2)))).bind fun (o59 : Ctl _ ((List Q0) × Bool)) => match o59 with
  | .ret r => some r
  | .go _ => none
  | .brk s58 =>
  ((Q1f n r53 p1 s58.1 s58.2).bind fun r65 =>
  some ((r65.1, r65.2))))))))))))))))
def Q0o (n : Nat) (p0 : (List Q3)) (p1 : Q2) (p2 : (List Q6)) : Option ((List Int) × Bool) :=
  ((Q0j n p0 p1 p2).bind fun r4 =>
  (if (!r4) = true then
  some (([], false))
  else
  ((forL (fun k117 x118 (s111 : (List Int)) =>
  ((((Q1k n p0 p1 p2 (k117 : Int)).bind fun r132 =>
  (if (!r132.2) = true then
  some (Ctl.ret (Ctl.ret (([], false))))
  else
  (if (ieq (lenZ r132.1.length) 0) = true then
  ((app s111 [(k117 : Int)]).bind fun x136 =>
  some (Ctl.brk x136))
  else
  some (Ctl.brk s111))))).bind fun (o129 : Ctl _ ((List Int))) => match o129 with
  | .ret r => some r
  | .go _ => none
  | .brk s128 =>
  some (Ctl.go s128))) 0 p2 []).bind fun (o110 : Ctl _ ((List Int))) => match o110 with
  | .ret r => some r
  | .go _ => none
  | .brk s121 =>
  some ((s121, true)))))
def Q5u (p0 : (List Int)) (p1 : Int) : Option (Bool) :=
  ((forL (fun k48 x49 (s42 : Unit) =>
  (if (ieq x49 p1) = true then
  some (Ctl.ret (true))
  else
  some (Ctl.go ()))) 0 p0 ()).bind fun (o41 : Ctl _ (Unit)) => match o41 with
  | .ret r => some r
  | .go _ => none
  | .brk s52 =>
  some (false))
def Q3s (p0 : X4) : Option ((List X4)) :=
  ((forL (fun k50 x51 (s44 : (List X4)) =>
  ((app s44 [x51.tree]).bind fun x56 =>
  some (Ctl.go x56))) 0 p0.branches []).bind fun (o43 : Ctl _ ((List X4))) => match o43 with
  | .ret r => some r
  | .go _ => none
  | .brk s54 =>
  ((app s54 p0.else_).bind fun x57 =>
  some (x57)))
def Q59 : Nat → X4 → (List Bool) → Option ((List Bool))
 | 0, _, _ => none
 | n + 1, p0, p1 =>
  (((if (ieq p0.op 1) = true then
  ((Y7 p0.clause 0 7).bind fun r27 =>
  (if r27 = true then
  ((aset 8 p1 p0.clause true).bind fun x29 =>
  some (Ctl.brk x29))
  else
  some (Ctl.brk p1)))
  else
  some (Ctl.brk p1))).bind fun (o15 : Ctl _ ((List Bool))) => match o15 with
  | .ret r => some r
  | .go _ => none
  | .brk s14 =>
  ((Q3s p0).bind fun r31 =>
  ((forL (fun k61 x62 (s55 : (List Bool)) =>
  ((chk (decide (s55.length = 8))).bind fun x69 =>
  ((Q59 n x62 s55).bind fun r70 =>
  some (Ctl.go r70)))) 0 r31 s14).bind fun (o54 : Ctl _ ((List Bool))) => match o54 with
  | .ret r => some r
  | .go _ => none
  | .brk s65 =>
  some (s65))))
def Q3z (n : Nat) (p0 : X4) : Option ((List Int)) :=
  ((Q59 n p0 [false, false, false, false, false, false, false, false]).bind fun r1 =>
  ((chk (decide (r1.length = 8))).bind fun x53 =>
  ((whileL (fun (s81 : (List Int) × Int) =>
  (if (ilt s81.2 8) = true then
  ((((aget 8 r1 s81.2).bind fun x101 =>
  (if x101 = true then
  ((app s81.1 [s81.2]).bind fun x103 =>
  some (Ctl.brk x103))
  else
  some (Ctl.brk s81.1)))).bind fun (o98 : Ctl _ ((List Int))) => match o98 with
  | .ret r => some r
  | .go _ => none
  | .brk s97 =>
  some (Ctl.go (s97, wadd .i64 s81.2 1)))
  else
  some (Ctl.brk (s81.1, s81.2)))) n ([], 0)).bind fun (o80 : Ctl _ ((List Int) × Int)) => match o80 with
  | .ret r => some r
  | .go _ => none
  | .brk s91 =>
  some (s91.1))))
def Q2n : Nat → (List Bool) → X4 → Option ((List Bool))
 | 0, _, _ => none
 | n + 1, p0, p1 =>
  (((if (ieq p1.op 1) = true then
  (if (ile 0 p1.clause) = true then
  (if (ilt p1.clause (lenZ p0.length)) = true then
  ((idx p0 p1.clause).bind fun x27 =>
  ((setI p0 p1.clause true).bind fun x28 =>
  some (Ctl.brk x28)))
  else
  some (Ctl.brk p0))
  else
  some (Ctl.brk p0))
  else
  some (Ctl.brk p0))).bind fun (o14 : Ctl _ ((List Bool))) => match o14 with
  | .ret r => some r
  | .go _ => none
  | .brk s13 =>
  ((forL (fun k88 x89 (s82 : (List Bool)) =>
  ((Q2n n s82 x89.tree).bind fun r95 =>
  some (Ctl.go r95))) 0 p1.branches s13).bind fun (o81 : Ctl _ ((List Bool))) => match o81 with
  | .ret r => some r
  | .go _ => none
  | .brk s92 =>
  ((forL (fun k156 x157 (s150 : (List Bool)) =>
  ((Q2n n s150 x157).bind fun r163 =>
  some (Ctl.go r163))) 0 p1.else_ s92).bind fun (o149 : Ctl _ ((List Bool))) => match o149 with
  | .ret r => some r
  | .go _ => none
  | .brk s160 =>
  some (s160))))
def Q3r (n : Nat) (p0 : X4) : Option ((List Int)) :=
  ((mkS 8 false).bind fun x1 =>
  ((Q2n n x1 p0).bind fun r2 =>
  ((forL (fun k82 x83 (s76 : (List Int)) =>
  (((if x83 = true then
  ((app s76 [(k82 : Int)]).bind fun x94 =>
  some (Ctl.brk x94))
  else
  some (Ctl.brk s76))).bind fun (o90 : Ctl _ ((List Int))) => match o90 with
  | .ret r => some r
  | .go _ => none
  | .brk s89 =>
  some (Ctl.go s89))) 0 r2 []).bind fun (o75 : Ctl _ ((List Int))) => match o75 with
  | .ret r => some r
  | .go _ => none
  | .brk s86 =>
  some (s86))))
def Q1p (n : Nat) (p0 : (List Int)) : Option (Bool) :=
  (if (ilt 1048576 (lenZ p0.length)) = true then
  some (true)
  else
  ((Q09 n p0).bind fun r3 =>
  ((W8 n r3.1 r3.2.1 r3.2.2.1 r3.2.2.2).bind fun r4 =>
  ((Q0h n r3.1 r3.2.1 r3.2.2.1 r3.2.2.2).bind fun r5 =>
  (if (!(r4.2 == r5.2)) = true then
  (if (r4.2 == r5.2) = true then
  ((Q04 n r4.1 r5.1).bind fun r93 =>
  some (r93))
  else
  some (false))
  else
  ((Q04 n r4.1 r5.1).bind fun r95 =>
  (if (!r95) = true then
  (if (r4.2 == r5.2) = true then
  ((Q04 n r4.1 r5.1).bind fun r101 =>
  some (r101))
  else
  some (false))
  else
  (if (!r4.2) = true then
  (if (r4.2 == r5.2) = true then
  ((Q04 n r4.1 r5.1).bind fun r109 =>
  some (r109))
  else
  some (false))
  else
  ((Q3z n r4.1).bind fun r111 =>
  ((Q0o n r3.1 r3.2.1 r3.2.2.1).bind fun r112 =>
  ((forL (fun k318 x319 (s312 : Unit) =>
  (if r112.2 = true then
  ((Q2y n r3.1 r3.2.1).bind fun r342 =>
  (if r342 = true then
  ((Q5u r111 (k318 : Int)).bind fun r349 =>
  ((Q5u r112.1 (k318 : Int)).bind fun r350 =>
  (if (r349 == r350) = true then
  some (Ctl.ret (false))
  else
  some (Ctl.go ()))))
  else
  some (Ctl.brk ())))
  else
  some (Ctl.brk ()))) 0 r3.2.2.1 ()).bind fun (o311 : Ctl _ (Unit)) => match o311 with
  | .ret r => some r
  | .go _ => none
  | .brk s322 =>
  ((Q3r n r5.1).bind fun r362 =>
  ((Q34 r111 r362).bind fun r363 =>
  (if r363 = true then
  some (ile (lenZ r111.length) (lenZ r3.2.2.1.length))
  else
  some (false)))))))))))))))
end Go.Proofs.YtbdkbdafhlcilaaGreat
