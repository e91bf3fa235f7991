import Derived.Test.YtbdkbdafhlcilaaGreatCJMir
import Derived.Test.YtbdkbdafhlcilaaGreatCJDat
import Derived.Test.YtbdkbdafhlcilaaGreatCJE1
import Derived.Test.YtbdkbdafhlcilaaGreatCJE0
set_option linter.unusedSimpArgs false
set_option linter.unusedVariables false
namespace Go.Proofs.YtbdkbdafhlcilaaGreat
open Go Go.RowKit
def Q21 : Nat → Z0 → Q4 → Option (Q4 × Z0)
 | 0, _, _ => none
 | n + 1, p0, p1 =>
  ((app [] p1.kids).bind fun x1 =>
  ((((Z2 p0 24).bind fun r24 =>
  (if (ieq r24.1 0) = true then
  ((X1 r24.2 [0, 1, (-1), 9, (-2)]).bind fun r26 =>
  some (Ctl.brk (r26.2, r26.1, p1.n, p1.kids)))
  else
  (if (ieq r24.1 1) = true then
  ((X1 r24.2 [10, (-1), 1]).bind fun r29 =>
  some (Ctl.brk (r29.2, p1.ctor, r29.1, p1.kids)))
  else
  (if (ieq r24.1 2) = true then
  ((app p1.kids [(Q4.mk (-1) 0 [])]).bind fun x32 =>
  some (Ctl.brk (r24.2, p1.ctor, p1.n, (p1.kids ++ [(Q4.mk (-1) 0 [])]))))
  else
  (if (ieq r24.1 3) = true then
  (if (ilt 0 (lenZ p1.kids.length)) = true then
  ((idx p1.kids 0).bind fun x35 =>
  ((Q21 n r24.2 x35).bind fun r36 =>
  ((Q21 n r36.2 r36.1).bind fun r37 =>
  ((setI p1.kids 0 r37.1).bind fun x38 =>
  some (Ctl.brk (r37.2, p1.ctor, p1.n, x38))))))
  else
  some (Ctl.brk (r24.2, p1.ctor, p1.n, p1.kids)))
  else
  some (Ctl.brk (r24.2, p1.ctor, p1.n, p1.kids)))))))).bind fun (o21 : Ctl _ (Z0 × Int × Int × (List Q4))) => match o21 with
  | .ret r => some r
  | .go _ => none
  | .brk s20 =>
  some (((Q4.mk s20.2.1 s20.2.2.1 s20.2.2.2), s20.1))))
def Q0x (n : Nat) (p0 : (List Int)) : Option ((List Q3) × Q2 × (List Q5) × (List Q4)) :=
  ((Q2i p0).bind fun r1 =>
  ((Q1a n r1).bind fun r2 =>
  ((Z2 r2.2.2.2.2 4).bind fun r56 =>
  ((whileL (fun (s85 : Z0 × (List Q4) × Int) =>
  (if (ilt 0 s85.2.2) = true then
  ((Q1c n r2.1).bind fun r103 =>
  ((Q2f n s85.1 r2.1 r103 r2.2.1 3).bind fun r104 =>
  ((app s85.2.1 [r104.1]).bind fun x105 =>
  some (Ctl.go (r104.2, x105, wsub .i64 s85.2.2 1)))))
  else
  some (Ctl.brk (s85.1, s85.2.1, s85.2.2)))) n (r56.2, [r2.2.2.2.1], r56.1)).bind fun (o84 : Ctl _ (Z0 × (List Q4) × Int)) => match o84 with
  | .ret r => some r
  | .go _ => none
  | .brk s95 =>
  ((Q21 n s95.1 r2.2.2.2.1).bind fun r108 =>
  ((idx s95.2.1 0).bind fun x109 =>
  ((setI s95.2.1 0 r108.1).bind fun x110 =>
  some ((r2.1, r2.2.1, r2.2.2.1, x110)))))))))
def Q0j (n : Nat) (p0 : (List Q3)) (p1 : Q2) (p2 : (List Q5)) (p3 : (List Q4)) : Option ((List Int)) :=
  ((Y2 n p0 p1 p2).bind fun r4 =>
  (if (!r4) = true then
  some ([])
  else
  ((forL (fun k165 x166 (s159 : (List Bool)) =>
  ((((Q3u n p0 p1 x166).bind fun r187 =>
  (if (!r187) = true then
  some (Ctl.ret (Ctl.ret ([])))
  else
  ((Q6x n p2 x166).bind fun r189 =>
  (if (ile 0 r189.1) = true then
  ((aset 8 s159 r189.1 true).bind fun x191 =>
  some (Ctl.brk x191))
  else
  some (Ctl.brk s159)))))).bind fun (o181 : Ctl _ ((List Bool))) => match o181 with
  | .ret r => some r
  | .go _ => none
  | .brk s180 =>
  some (Ctl.go s180))) 0 p3 [false, false, false, false, false, false, false, false]).bind fun (o158 : Ctl _ ((List Bool))) => match o158 with
  | .ret r => some r
  | .go _ => none
  | .brk s169 =>
  ((chk (decide (s169.length = 8))).bind fun x245 =>
  ((whileL (fun (s273 : (List Int) × Int) =>
  (if (ilt s273.2 8) = true then
  ((((aget 8 s169 s273.2).bind fun x293 =>
  (if x293 = true then
  ((app s273.1 [s273.2]).bind fun x295 =>
  some (Ctl.brk x295))
  else
  some (Ctl.brk s273.1)))).bind fun (o290 : Ctl _ ((List Int))) => match o290 with
  | .ret r => some r
  | .go _ => none
  | .brk s289 =>
  some (Ctl.go (s289, wadd .i64 s273.2 1)))
  else
  some (Ctl.brk (s273.1, s273.2)))) n ([], 0)).bind fun (o272 : Ctl _ ((List Int) × Int)) => match o272 with
  | .ret r => some r
  | .go _ => none
  | .brk s283 =>
  some (s283.1))))))
def Q3d (p0 : (List Int)) (p1 : (List Int)) : Option (Bool) :=
  (if (!ieq (lenZ p0.length) (lenZ p1.length)) = true then
  some (false)
  else
  ((forL (fun k60 x61 (s54 : Unit) =>
  ((idx p1 (k60 : Int)).bind fun x67 =>
  (if (!ieq x61 x67) = true then
  some (Ctl.ret (false))
  else
  some (Ctl.go ())))) 0 p0 ()).bind fun (o53 : Ctl _ (Unit)) => match o53 with
  | .ret r => some r
  | .go _ => none
  | .brk s64 =>
  some (true)))
def Q3b : Nat → (List Q3) → Q2 → Q4 → Int → Option (Bool)
 | 0, _, _, _, _ => none
 | n + 1, p0, p1, p2, p3 =>
  (if (ilt p3 1) = true then
  some (false)
  else
  (if (ieq p1.data (-1)) = true then
  (if (ieq p2.ctor (-1)) = true then
  (if (ile 0 p2.n) = true then
  (if (ile p2.n 9) = true then
  some (ieq (lenZ p2.kids.length) 0)
  else
  some (false))
  else
  some (false))
  else
  some (false))
  else
  (if (!ieq p2.n 0) = true then
  some (false)
  else
  ((W0 p0 p1).bind fun r46 =>
  ((Q53 r46 p2.ctor).bind fun r47 =>
  (if (!r47) = true then
  some (false)
  else
  ((Q0d p0 p1 p2.ctor).bind fun r49 =>
  (if (!ieq (lenZ p2.kids.length) (lenZ r49.length)) = true then
  some (false)
  else
  ((forL (fun k129 x130 (s123 : Unit) =>
  ((idx p2.kids (k129 : Int)).bind fun x138 =>
  ((Q3b n p0 x130 x138 (wsub .i64 p3 1)).bind fun r139 =>
  (if (!r139) = true then
  some (Ctl.ret (false))
  else
  some (Ctl.go ()))))) 0 r49 ()).bind fun (o122 : Ctl _ (Unit)) => match o122 with
  | .ret r => some r
  | .go _ => none
  | .brk s133 =>
  some (true))))))))))
def Q3r : Nat → Q4 → Int → Option (Int)
 | 0, _, _ => none
 | n + 1, p0, p1 =>
  ((forL (fun k94 x95 (s88 : Int) =>
  (if (ile s88 p1) = true then
  ((Q3r n x95 (wsub .i64 p1 s88)).bind fun r103 =>
  some (Ctl.go (wadd .i64 s88 r103)))
  else
  some (Ctl.brk s88))) 0 p0.kids 1).bind fun (o87 : Ctl _ (Int)) => match o87 with
  | .ret r => some r
  | .go _ => none
  | .brk s98 =>
  some (s98))
def Q86 (n : Nat) (p0 : (List Q3)) (p1 : Q2) (p2 : Q4) : Option (Bool) :=
  ((Q3b n p0 p1 p2 10).bind fun r7 =>
  (if r7 = true then
  ((Q3r n p2 60).bind fun r9 =>
  some (ile r9 60))
  else
  some (false)))
def Q1w : Nat → (List X3) → Q0 → Q4 → Option ((List X3) × Bool)
 | 0, _, _, _ => none
 | n + 1, p0, p1, p2 =>
  (if (ieq p1.op 1) = true then
  some ((p0, true))
  else
  (if (ieq p1.op 2) = true then
  ((app [] p0).bind fun x25 =>
  ((app p0 [(X3.mk p1.var p2)]).bind fun x26 =>
  some ((x26, true))))
  else
  (if (ieq p1.op 3) = true then
  (if (ile p1.n p2.n) = true then
  some ((p0, ile p2.n p1.m))
  else
  some ((p0, false)))
  else
  (if (ieq p1.op 5) = true then
  ((idx p1.kids 0).bind fun x31 =>
  ((Q1w n p0 x31 p2).bind fun r32 =>
  (if r32.2 = true then
  some ((r32.1, true))
  else
  ((idx p1.kids 1).bind fun x35 =>
  ((Q1w n p0 x35 p2).bind fun r36 =>
  some ((r36.1, r36.2)))))))
  else
  (if (ieq p1.op 6) = true then
  ((idx p1.kids 0).bind fun x40 =>
  ((app [] p0).bind fun x41 =>
  ((app p0 [(X3.mk p1.var p2)]).bind fun x42 =>
  ((Q1w n x42 x40 p2).bind fun r43 =>
  some ((r43.1, r43.2))))))
  else
  (if (!ieq p2.ctor p1.ctor) = true then
  some ((p0, false))
  else
  ((forL (fun k136 x137 (s130 : (List X3)) =>
  ((idx p2.kids (k136 : Int)).bind fun x146 =>
  ((Q1w n s130 x137 x146).bind fun r147 =>
  (if (!r147.2) = true then
  some (Ctl.ret ((s130, false)))
  else
  some (Ctl.go r147.1))))) 0 p1.kids p0).bind fun (o129 : Ctl _ ((List X3))) => match o129 with
  | .ret r => some r
  | .go _ => none
  | .brk s140 =>
  some ((s140, true)))))))))
def Q2l (p0 : Q2z) (p1 : (List X3)) : Option (Bool) :=
  (if (ieq p0.op 0) = true then
  some (true)
  else
  ((forL (fun k188 x189 (s182 : Unit) =>
  (((if (!ieq x189.var p0.var) = true then
  some (Ctl.brk ())
  else
  (if (ieq x189.value.ctor (-1)) = true then
  (if (ieq p0.op 1) = true then
  (if (ilt x189.value.n p0.n) = true then
  some (Ctl.ret (Ctl.ret (true)))
  else
  (if (ieq p0.op 2) = true then
  some (Ctl.ret (Ctl.ret (ieq x189.value.n p0.n)))
  else
  some (Ctl.ret (Ctl.ret (false)))))
  else
  (if (ieq p0.op 2) = true then
  some (Ctl.ret (Ctl.ret (ieq x189.value.n p0.n)))
  else
  some (Ctl.ret (Ctl.ret (false)))))
  else
  some (Ctl.ret (Ctl.ret (false)))))).bind fun (o206 : Ctl _ (Unit)) => match o206 with
  | .ret r => some r
  | .go _ => none
  | .brk s205 =>
  some (Ctl.go ()))) 0 p1 ()).bind fun (o181 : Ctl _ (Unit)) => match o181 with
  | .ret r => some r
  | .go _ => none
  | .brk s192 =>
  some (false)))
def Q4g : Nat → Q4 → Option (Q4)
 | 0, _ => none
 | n + 1, p0 =>
  ((forL (fun k70 x71 (s64 : (List Q4)) =>
  ((Q4g n x71).bind fun r78 =>
  ((app s64 [r78]).bind fun x79 =>
  some (Ctl.go x79)))) 0 p0.kids []).bind fun (o63 : Ctl _ ((List Q4))) => match o63 with
  | .ret r => some r
  | .go _ => none
  | .brk s74 =>
  some ((Q4.mk p0.ctor p0.n s74)))
def Q5f (n : Nat) (p0 : (List X3)) : Option ((List X3)) :=
  ((whileL (fun (s608 : (List X3) × Int) =>
  (if (ile s608.2 5) = true then
  ((forL (fun k720 x721 (s714 : (List X3)) =>
  (((if (ieq x721.var s608.2) = true then
  ((Q4g n x721.value).bind fun r734 =>
  ((app s714 [(X3.mk s608.2 r734)]).bind fun x735 =>
  some (Ctl.brk x735)))
  else
  some (Ctl.brk s714))).bind fun (o730 : Ctl _ ((List X3))) => match o730 with
  | .ret r => some r
  | .go _ => none
  | .brk s729 =>
  some (Ctl.go s729))) 0 p0 s608.1).bind fun (o713 : Ctl _ ((List X3))) => match o713 with
  | .ret r => some r
  | .go _ => none
  | .brk s724 =>
  some (Ctl.go (s724, wadd .i64 s608.2 1)))
  else
  some (Ctl.brk (s608.1, s608.2)))) n ([], 0)).bind fun (o607 : Ctl _ ((List X3) × Int)) => match o607 with
  | .ret r => some r
  | .go _ => none
  | .brk s618 =>
  some (s618.1))
def Q69 (n : Nat) (p0 : (List Q5)) (p1 : Q4) : Option (Int × (List X3)) :=
  ((forL (fun k228 x229 (s222 : Unit) =>
  ((((Q1w n [] x229.pat p1).bind fun r254 =>
  (if r254.2 = true then
  ((Q2l x229.guard r254.1).bind fun r265 =>
  (if r265 = true then
  ((Q5f n r254.1).bind fun r267 =>
  some (Ctl.ret (Ctl.ret (((k228 : Int), r267)))))
  else
  some (Ctl.brk ())))
  else
  some (Ctl.brk ())))).bind fun (o251 : Ctl _ (Unit)) => match o251 with
  | .ret r => some r
  | .go _ => none
  | .brk s250 =>
  some (Ctl.go ()))) 0 p0 ()).bind fun (o221 : Ctl _ (Unit)) => match o221 with
  | .ret r => some r
  | .go _ => none
  | .brk s232 =>
  some (((-1), [])))
def J6 (n : Nat) (p0 : (List Q3)) (p1 : Q2) (p2 : (List Q5)) (p3 : (List Q4)) : Option ((List Int)) :=
  ((Y9 n p0 p1 p2).bind fun r4 =>
  (if (!r4) = true then
  some ([])
  else
  ((mkS (lenZ p2.length) false).bind fun x6 =>
  ((forL (fun k184 x185 (s178 : (List Bool)) =>
  ((((Q86 n p0 p1 x185).bind fun r207 =>
  (if (!r207) = true then
  some (Ctl.ret (Ctl.ret ([])))
  else
  ((Q69 n p2 x185).bind fun r209 =>
  (if (ile 0 r209.1) = true then
  ((idx s178 r209.1).bind fun x211 =>
  ((setI s178 r209.1 true).bind fun x212 =>
  some (Ctl.brk x212)))
  else
  some (Ctl.brk s178)))))).bind fun (o201 : Ctl _ ((List Bool))) => match o201 with
  | .ret r => some r
  | .go _ => none
  | .brk s200 =>
  some (Ctl.go s200))) 0 p3 x6).bind fun (o177 : Ctl _ ((List Bool))) => match o177 with
  | .ret r => some r
  | .go _ => none
  | .brk s188 =>
  ((forL (fun k294 x295 (s288 : (List Int)) =>
  (((if x295 = true then
  ((app s288 [(k294 : Int)]).bind fun x306 =>
  some (Ctl.brk x306))
  else
  some (Ctl.brk s288))).bind fun (o302 : Ctl _ ((List Int))) => match o302 with
  | .ret r => some r
  | .go _ => none
  | .brk s301 =>
  some (Ctl.go s301))) 0 s188 []).bind fun (o287 : Ctl _ ((List Int))) => match o287 with
  | .ret r => some r
  | .go _ => none
  | .brk s298 =>
  some (s298))))))
def Q0n (n : Nat) (p0 : (List Q3)) (p1 : Q2) (p2 : (List Q5)) : Option ((List Int) × Bool) :=
  ((Y2 n p0 p1 p2).bind fun r4 =>
  (if (!r4) = true then
  some (([], false))
  else
  ((forL (fun k117 x118 (s111 : (List Int)) =>
  ((((Q0v n p0 p1 p2 (k117 : Int)).bind fun r132 =>
  (if (!r132.2) = true then
  some (Ctl.ret (Ctl.ret (([], false))))
  else
  (if (ieq (lenZ r132.1.length) 0) = true then
  ((app s111 [(k117 : Int)]).bind fun x136 =>
  some (Ctl.brk x136))
  else
  some (Ctl.brk s111))))).bind fun (o129 : Ctl _ ((List Int))) => match o129 with
  | .ret r => some r
  | .go _ => none
  | .brk s128 =>
  some (Ctl.go s128))) 0 p2 []).bind fun (o110 : Ctl _ ((List Int))) => match o110 with
  | .ret r => some r
  | .go _ => none
  | .brk s121 =>
  some ((s121, true)))))
def Q2u (p0 : (List Int)) (p1 : Int) : Option (Bool) :=
  ((forL (fun k48 x49 (s42 : Unit) =>
  (if (ieq x49 p1) = true then
  some (Ctl.ret (true))
  else
  some (Ctl.go ()))) 0 p0 ()).bind fun (o41 : Ctl _ (Unit)) => match o41 with
  | .ret r => some r
  | .go _ => none
  | .brk s52 =>
  some (false))
def Q0m (n : Nat) (p0 : (List Int)) : Option (Bool) :=
  (if (ilt 1048576 (lenZ p0.length)) = true then
  some (true)
  else
  ((Q0x n p0).bind fun r3 =>
  ((Q0j n r3.1 r3.2.1 r3.2.2.1 r3.2.2.2).bind fun r4 =>
  ((J6 n r3.1 r3.2.1 r3.2.2.1 r3.2.2.2).bind fun r67 =>
  ((Q3d r4 r67).bind fun r68 =>
  (if (!r68) = true then
  ((J6 n r3.1 r3.2.1 r3.2.2.1 r3.2.2.2).bind fun r70 =>
  ((Q3d r4 r70).bind fun r71 =>
  some (r71)))
  else
  (if (ieq (lenZ r4.length) 0) = true then
  ((J6 n r3.1 r3.2.1 r3.2.2.1 r3.2.2.2).bind fun r77 =>
  ((Q3d r4 r77).bind fun r78 =>
  some (r78)))
  else
  ((Q73 r3.2.2.2 (wsub .i64 (lenZ r3.2.2.2.length) 1)).bind fun x81 =>
  ((Q0j n r3.1 r3.2.1 r3.2.2.1 x81).bind fun r82 =>
  ((Q0n n r3.1 r3.2.1 r3.2.2.1).bind fun r83 =>
  ((forL (fun k1043 x1044 (s1037 : Unit) =>
  ((((Q2u r82 (k1043 : Int)).bind fun r1203 =>
  (if r1203 = true then
  ((Q2u r4 (k1043 : Int)).bind fun r1205 =>
  (if (!r1205) = true then
  some (Ctl.ret (Ctl.ret (false)))
  else
  (if r83.2 = true then
  ((Q2u r4 (k1043 : Int)).bind fun r1210 =>
  (if r1210 = true then
  ((Q2u r83.1 (k1043 : Int)).bind fun r1212 =>
  (if r1212 = true then
  some (Ctl.ret (Ctl.ret (false)))
  else
  some (Ctl.brk ())))
  else
  some (Ctl.brk ())))
  else
  some (Ctl.brk ()))))
  else
  (if r83.2 = true then
  ((Q2u r4 (k1043 : Int)).bind fun r1224 =>
  (if r1224 = true then
  ((Q2u r83.1 (k1043 : Int)).bind fun r1226 =>
  (if r1226 = true then
  some (Ctl.ret (Ctl.ret (false)))
  else
  some (Ctl.brk ())))
  else
  some (Ctl.brk ())))
  else
  some (Ctl.brk ()))))).bind fun (o1140 : Ctl _ (Unit)) => match o1140 with
  | .ret r => some r
  | .go _ => none
  | .brk s1139 =>
  some (Ctl.go ()))) 0 r3.2.2.1 ()).bind fun (o1036 : Ctl _ (Unit)) => match o1036 with
  | .ret r => some r
  | .go _ => none
  | .brk s1047 =>
  some (ile (lenZ r4.length) (lenZ r3.2.2.2.length)))))))))))))
end Go.Proofs.YtbdkbdafhlcilaaGreat
