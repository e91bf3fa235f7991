import Derived.Test.YtbdkbdafhlcilaaGreatCJMir
import Derived.Test.YtbdkbdafhlcilaaGreatCJDat
import Derived.Test.YtbdkbdafhlcilaaGreatCJE1
import Derived.Test.YtbdkbdafhlcilaaGreatCJE0
set_option linter.unusedSimpArgs false
set_option linter.unusedVariables false
namespace Go.Proofs.YtbdkbdafhlcilaaGreat
open Go Go.RowKit
def Q20 (p0 : Z0) (p1 : Q0) : Option (Q0 × Z0) :=
  ((app [] p1.kids).bind fun x1 =>
  ((((Z2 p0 30).bind fun r26 =>
  (if (ieq r26.1 0) = true then
  ((X1 r26.2 [0, 7, 1, 2, 5]).bind fun r28 =>
  some (Ctl.brk (r28.2, r28.1, p1.ctor, p1.n, p1.var, p1.kids)))
  else
  (if (ieq r26.1 1) = true then
  ((X1 r26.2 [6, (-1), 1]).bind fun r31 =>
  some (Ctl.brk (r31.2, p1.op, p1.ctor, p1.n, r31.1, p1.kids)))
  else
  (if (ieq r26.1 2) = true then
  ((X1 r26.2 [9, (-1), 1]).bind fun r34 =>
  some (Ctl.brk (r34.2, p1.op, r34.1, p1.n, p1.var, p1.kids)))
  else
  (if (ieq r26.1 3) = true then
  ((app p1.kids [(Q0.mk 2 0 0 0 0 [])]).bind fun x37 =>
  some (Ctl.brk (r26.2, p1.op, p1.ctor, p1.n, p1.var, (p1.kids ++ [(Q0.mk 2 0 0 0 0 [])]))))
  else
  (if (ieq r26.1 4) = true then
  (if (ilt 0 (lenZ p1.kids.length)) = true then
  ((idx p1.kids 0).bind fun x40 =>
  ((setI p1.kids 0 (Q0.mk 2 0 0 0 0 [])).bind fun x41 =>
  some (Ctl.brk (r26.2, p1.op, p1.ctor, p1.n, p1.var, x41))))
  else
  some (Ctl.brk (r26.2, p1.op, p1.ctor, p1.n, p1.var, p1.kids)))
  else
  (if (ieq r26.1 5) = true then
  ((X1 r26.2 [10, (-1), 5]).bind fun r43 =>
  some (Ctl.brk (r43.2, p1.op, p1.ctor, r43.1, p1.var, p1.kids)))
  else
  some (Ctl.brk (r26.2, p1.op, p1.ctor, p1.n, p1.var, p1.kids)))))))))).bind fun (o23 : Ctl _ (Z0 × Int × Int × Int × Int × (List Q0))) => match o23 with
  | .ret r => some r
  | .go _ => none
  | .brk s22 =>
  some (((Q0.mk s22.2.1 s22.2.2.1 s22.2.2.2.1 p1.m s22.2.2.2.2.1 s22.2.2.2.2.2), s22.1))))
def Q2q (n : Nat) (p0 : Z0) (p1 : (List Q5)) : Option ((List Q5) × Z0) :=
  ((app [] p1).bind fun x1 =>
  ((((Z2 p0 24).bind fun r49 =>
  (if (ieq r49.1 0) = true then
  (if (ilt 0 (lenZ p1.length)) = true then
  ((X1 r49.2 [1, 2, 3, (-1)]).bind fun r52 =>
  ((X1 r52.2 [0, 5, 9]).bind fun r53 =>
  ((X1 r53.2 [3, 10, (-1)]).bind fun r54 =>
  ((idx p1 0).bind fun x55 =>
  ((setI p1 0 (Q5.mk x55.pat (Q2z.mk r52.1 r53.1 r54.1))).bind fun x56 =>
  some (Ctl.brk (r54.2, x56)))))))
  else
  some (Ctl.brk (r49.2, p1)))
  else
  (if (ieq r49.1 1) = true then
  (if (ilt 0 (lenZ p1.length)) = true then
  ((idx p1 0).bind fun x62 =>
  ((Q20 r49.2 x62.pat).bind fun r63 =>
  ((Q20 r63.2 r63.1).bind fun r64 =>
  ((setI p1 0 (Q5.mk r64.1 x62.guard)).bind fun x65 =>
  some (Ctl.brk (r64.2, x65))))))
  else
  some (Ctl.brk (r49.2, p1)))
  else
  (if (ieq r49.1 2) = true then
  ((whileL (fun (s77 : (List Q5)) =>
  (if (ile (lenZ s77.length) 8) = true then
  ((app s77 [(Q5.mk (Q0.mk 1 0 0 0 0 []) (Q2z.mk 0 0 0))]).bind fun x90 =>
  some (Ctl.go (s77 ++ [(Q5.mk (Q0.mk 1 0 0 0 0 []) (Q2z.mk 0 0 0))])))
  else
  some (Ctl.brk s77))) n p1).bind fun (o76 : Ctl _ ((List Q5))) => match o76 with
  | .ret r => some r
  | .go _ => none
  | .brk s87 =>
  some (Ctl.brk (r49.2, s87)))
  else
  some (Ctl.brk (r49.2, p1))))))).bind fun (o46 : Ctl _ (Z0 × (List Q5))) => match o46 with
  | .ret r => some r
  | .go _ => none
  | .brk s45 =>
  some ((s45.2, s45.1))))
def Q44 (p0 : (List (List Q0))) : Option ((List (List Q0))) :=
  ((forL (fun k12480 x12481 (s12474 : (List (List Q0))) =>
  ((forL (fun k13906 x13907 (s13900 : (List (List Q0))) =>
  (if (ile (lenZ s13900.length) 400) = true then
  ((forL (fun k14008 x14009 (s14002 : (List (List Q0))) =>
  (if (ile (lenZ s14002.length) 400) = true then
  ((app [] x13907).bind fun x14018 =>
  ((app x13907 [x14009]).bind fun x14019 =>
  ((app s14002 [x14019]).bind fun x14020 =>
  some (Ctl.go (s14002 ++ [x14019])))))
  else
  some (Ctl.brk s14002))) 0 x12481 s13900).bind fun (o14001 : Ctl _ ((List (List Q0)))) => match o14001 with
  | .ret r => some r
  | .go _ => none
  | .brk s14012 =>
  some (Ctl.go s14012))
  else
  some (Ctl.brk s13900))) 0 s12474 []).bind fun (o13899 : Ctl _ ((List (List Q0)))) => match o13899 with
  | .ret r => some r
  | .go _ => none
  | .brk s13910 =>
  some (Ctl.go s13910))) 0 p0 [[]]).bind fun (o12473 : Ctl _ ((List (List Q0)))) => match o12473 with
  | .ret r => some r
  | .go _ => none
  | .brk s12484 =>
  some (s12484))
def Q1b : Nat → Q0 → Option ((List Q0))
 | 0, _ => none
 | n + 1, p0 =>
  (if (ieq p0.op 5) = true then
  ((idx p0.kids 0).bind fun x14 =>
  ((idx p0.kids 1).bind fun x15 =>
  ((Q1b n x14).bind fun r16 =>
  ((Q1b n x15).bind fun r17 =>
  ((app r16 r17).bind fun x18 =>
  (if (ilt 401 (lenZ x18.length)) = true then
  ((Q73 x18 401).bind fun x22 =>
  some (x22))
  else
  some (x18)))))))
  else
  ((forL (fun k94 x95 (s88 : (List (List Q0))) =>
  ((Q1b n x95).bind fun r102 =>
  ((app s88 [r102]).bind fun x103 =>
  some (Ctl.go (s88 ++ [r102]))))) 0 p0.kids []).bind fun (o87 : Ctl _ ((List (List Q0)))) => match o87 with
  | .ret r => some r
  | .go _ => none
  | .brk s98 =>
  ((Q44 s98).bind fun r105 =>
  ((forL (fun k155 x156 (s149 : (List Q0)) =>
  ((app s149 [(Q0.mk p0.op p0.ctor p0.n p0.m p0.var x156)]).bind fun x161 =>
  some (Ctl.go x161))) 0 r105 []).bind fun (o148 : Ctl _ ((List Q0))) => match o148 with
  | .ret r => some r
  | .go _ => none
  | .brk s159 =>
  some (s159)))))
def Q1q (n : Nat) (p0 : (List Q3)) (p1 : Q2) (p2 : (List Q5)) : Option ((List Q0) × Bool) :=
  ((Y2 n p0 p1 p2).bind fun r4 =>
  (if (!r4) = true then
  some (([], false))
  else
  ((Q46 n p2).bind fun r6 =>
  (if (!r6.2) = true then
  some (([], false))
  else
  ((Q2c n p0).bind fun r9 =>
  ((Q16).bind fun r10 =>
  ((Q0i n r9 p1 [r10] r6.1).bind fun r11 =>
  ((Q1h n r9 p1 r11.1 r11.2).bind fun r12 =>
  some ((r12.1, r12.2))))))))))
def Q0e : Nat → (List Q3) → Q2 → Int → Option (Int)
 | 0, _, _, _ => none
 | n + 1, p0, p1, p2 =>
  (if (ieq p2 0) = true then
  some (0)
  else
  (if (ieq p1.data (-1)) = true then
  some (10)
  else
  ((Q0y p0 p1).bind fun r461 =>
  ((forL (fun k767 x768 (s761 : Int) =>
  ((Q06 p0 p1 x768).bind fun r880 =>
  ((forL (fun k906 x907 (s900 : Int) =>
  ((Q0e n p0 x907 (wsub .i64 p2 1)).bind fun r913 =>
  some (Ctl.go (imin (wmul .i64 s900 r913) 401)))) 0 r880 1).bind fun (o899 : Ctl _ (Int)) => match o899 with
  | .ret r => some r
  | .go _ => none
  | .brk s910 =>
  some (Ctl.go (imin (wadd .i64 s761 s910) 401))))) 0 r461 0).bind fun (o760 : Ctl _ (Int)) => match o760 with
  | .ret r => some r
  | .go _ => none
  | .brk s771 =>
  some (s771)))))
def Q7p (p0 : Int) : Option (Q4) :=
  some ((Q4.mk (-1) p0 []))
def Q54 (n : Nat) (p0 : Q2) (q0 : (List Q3)) (q1 : Int) : Option (Bool) :=
  ((Q0e n q0 p0 (wsub .i64 q1 1)).bind fun r1 =>
  some (ieq r1 0))
def Q1g (p0 : (List Q4)) : Option ((List Q4)) :=
  ((app [] p0).bind fun x3 =>
  some (p0))
def Q3e : Nat → (List Q3) → Q2 → Int → Option ((List Q4))
 | 0, _, _, _ => none
 | n + 1, p0, p1, p2 =>
  (if (ieq p2 0) = true then
  some ([])
  else
  (if (ieq p1.data (-1)) = true then
  ((whileL (fun (s138 : (List Q4) × Int) =>
  (if (ilt s138.2 10) = true then
  ((Q7p s138.2).bind fun r154 =>
  ((app s138.1 [r154]).bind fun x155 =>
  some (Ctl.go (x155, wadd .i64 s138.2 1))))
  else
  some (Ctl.brk (s138.1, s138.2)))) n ([], 0)).bind fun (o137 : Ctl _ ((List Q4) × Int)) => match o137 with
  | .ret r => some r
  | .go _ => none
  | .brk s148 =>
  some (s148.1))
  else
  ((Q0y p0 p1).bind fun r43567 =>
  ((forL (fun k72509 x72510 (s72503 : (List Q4)) =>
  ((((Q06 p0 p1 x72510).bind fun r79747 =>
  ((Q00 r79747 (fun a0 => Q54 n a0 p0 p2)).bind fun r79751 =>
  (if r79751 = true then
  some (Ctl.brk s72503)
  else
  ((forL (fun k85772 x85773 (s85766 : (List Q4)) =>
  ((Q3e n p0 x85773 (wsub .i64 p2 1)).bind fun r86375 =>
  ((forL (fun k86875 x86876 (s86869 : (List Q4)) =>
  ((forL (fun k86959 x86960 (s86953 : (List Q4)) =>
  ((Q1g x86876.kids).bind fun r86968 =>
  ((app r86968 [x86960]).bind fun x86969 =>
  ((app s86953 [(Q4.mk x72510 0 x86969)]).bind fun x86970 =>
  some (Ctl.go (s86953 ++ [(Q4.mk x72510 0 x86969)])))))) 0 r86375 s86869).bind fun (o86952 : Ctl _ ((List Q4))) => match o86952 with
  | .ret r => some r
  | .go _ => none
  | .brk s86963 =>
  some (Ctl.go s86963))) 0 s85766 []).bind fun (o86868 : Ctl _ ((List Q4))) => match o86868 with
  | .ret r => some r
  | .go _ => none
  | .brk s86879 =>
  some (Ctl.go s86879)))) 0 r79747 [(Q4.mk x72510 0 [])]).bind fun (o85765 : Ctl _ ((List Q4))) => match o85765 with
  | .ret r => some r
  | .go _ => none
  | .brk s85776 =>
  ((app s72503 s85776).bind fun x86973 =>
  some (Ctl.brk x86973))))))).bind fun (o79744 : Ctl _ ((List Q4))) => match o79744 with
  | .ret r => some r
  | .go _ => none
  | .brk s79743 =>
  some (Ctl.go s79743))) 0 r43567 []).bind fun (o72502 : Ctl _ ((List Q4))) => match o72502 with
  | .ret r => some r
  | .go _ => none
  | .brk s72513 =>
  some (s72513)))))
def Q1s (n : Nat) (p0 : (List Q3)) (p1 : Q2) (p2 : Int) : Option ((List Q4) × Bool) :=
  ((Q35 n p0 p1).bind fun r59 =>
  (if (!r59) = true then
  some (([], false))
  else
  ((V8 p2 0 4).bind fun r62 =>
  (if (!r62) = true then
  some (([], false))
  else
  ((Q0e n p0 p1 p2).bind fun r66 =>
  (if (ilt 400 r66) = true then
  some (([], false))
  else
  ((Q3e n p0 p1 p2).bind fun r110 =>
  ((forL (fun k140 x141 (s134 : (List Q4)) =>
  ((Q24 n x141).bind fun r148 =>
  ((app s134 [r148]).bind fun x149 =>
  some (Ctl.go x149)))) 0 r110 []).bind fun (o133 : Ctl _ ((List Q4))) => match o133 with
  | .ret r => some r
  | .go _ => none
  | .brk s144 =>
  some ((s144, true))))))))))
def W8 : Nat → Q0 → Option (Q0)
 | 0, _ => none
 | n + 1, p0 =>
  (((if (ieq p0.op 2) = true then
  some (Ctl.ret ((Q0.mk 1 0 0 0 0 [])))
  else
  (if (ieq p0.op 6) = true then
  (if (ilt 0 (lenZ p0.kids.length)) = true then
  ((idx p0.kids 0).bind fun x14 =>
  ((W8 n x14).bind fun r15 =>
  some (Ctl.ret (r15))))
  else
  some (Ctl.brk ()))
  else
  some (Ctl.brk ())))).bind fun (o8 : Ctl _ (Unit)) => match o8 with
  | .ret r => some r
  | .go _ => none
  | .brk s7 =>
  ((forL (fun k86 x87 (s80 : (List Q0)) =>
  ((W8 n x87).bind fun r94 =>
  ((app s80 [r94]).bind fun x95 =>
  some (Ctl.go x95)))) 0 p0.kids []).bind fun (o79 : Ctl _ ((List Q0))) => match o79 with
  | .ret r => some r
  | .go _ => none
  | .brk s90 =>
  some ((Q0.mk p0.op p0.ctor p0.n p0.m p0.var s90))))
def Q5g (p0 : Int) (p1 : Int) : Option (Q0) :=
  (((if (ieq p0 0) = true then
  (if (ieq p1 9) = true then
  ((J2).bind fun r21 =>
  some (Ctl.ret (r21)))
  else
  some (Ctl.brk ()))
  else
  some (Ctl.brk ()))).bind fun (o11 : Ctl _ (Unit)) => match o11 with
  | .ret r => some r
  | .go _ => none
  | .brk s10 =>
  some ((Q0.mk 3 0 p0 p1 0 [])))
def Q0r : Nat → Q0 → Q0 → Option (Bool)
 | 0, _, _ => none
 | n + 1, p0, p1 =>
  (if (!ieq p0.op p1.op) = true then
  some (false)
  else
  (if (!ieq p0.ctor p1.ctor) = true then
  some (false)
  else
  (if (!ieq p0.n p1.n) = true then
  some (false)
  else
  (if (!ieq p0.m p1.m) = true then
  some (false)
  else
  (if (!ieq p0.var p1.var) = true then
  some (false)
  else
  (if (!ieq (lenZ p0.kids.length) (lenZ p1.kids.length)) = true then
  some (false)
  else
  ((forL (fun k112 x113 (s106 : Unit) =>
  ((idx p1.kids (k112 : Int)).bind fun x121 =>
  ((Q0r n x113 x121).bind fun r122 =>
  (if (!r122) = true then
  some (Ctl.ret (false))
  else
  some (Ctl.go ()))))) 0 p0.kids ()).bind fun (o105 : Ctl _ (Unit)) => match o105 with
  | .ret r => some r
  | .go _ => none
  | .brk s116 =>
  some (true))))))))
def Q0h (p0 : Q0) : Option (Bool) :=
  some (ieq p0.op 1)
def X4 (p0 : Q0) : Option (Bool) :=
  ((forL (fun k68 x69 (s62 : Unit) =>
  ((Q0h x69).bind fun r76 =>
  (if (!r76) = true then
  some (Ctl.ret (false))
  else
  some (Ctl.go ())))) 0 p0.kids ()).bind fun (o61 : Ctl _ (Unit)) => match o61 with
  | .ret r => some r
  | .go _ => none
  | .brk s72 =>
  some (true))
def Q6a (n : Nat) (p0 : (List Q3)) (p1 : Q2) (p2 : Q0) (p3 : Q0) : Option (Q0) :=
  ((((Q0r n p2 p3).bind fun r5819 =>
  (if r5819 = true then
  some (Ctl.ret (p2))
  else
  ((Q0h p2).bind fun r5822 =>
  (if r5822 = true then
  some (Ctl.ret (p2))
  else
  (if (ieq p2.op 3) = true then
  (if (ieq p3.op 3) = true then
  (if (ile p2.n (wadd .i64 p3.m 1)) = true then
  (if (ile p3.n (wadd .i64 p2.m 1)) = true then
  (((if (ilt p3.n p2.n) = true then
  some (Ctl.brk p3.n)
  else
  some (Ctl.brk p2.n))).bind fun (o6795 : Ctl _ (Int)) => match o6795 with
  | .ret r => some r
  | .go _ => none
  | .brk s6794 =>
  (((if (ilt p2.m p3.m) = true then
  some (Ctl.brk p3.m)
  else
  some (Ctl.brk p2.m))).bind fun (o6801 : Ctl _ (Int)) => match o6801 with
  | .ret r => some r
  | .go _ => none
  | .brk s6800 =>
  ((Q5g s6794 s6800).bind fun r6805 =>
  some (Ctl.ret (r6805)))))
  else
  ((Q0h p3).bind fun r6928 =>
  (if r6928 = true then
  ((Y8 n [] p0 p1 p2).bind fun r6930 =>
  (if (ieq (lenZ r6930.length) 0) = true then
  some (Ctl.ret (p3))
  else
  (if (ieq p2.op 4) = true then
  (if (ieq p3.op 4) = true then
  ((X4 p2).bind fun r6969 =>
  (if r6969 = true then
  ((X4 p3).bind fun r6971 =>
  (if r6971 = true then
  (if (!ieq p2.ctor p3.ctor) = true then
  ((W0 p0 p1).bind fun r6974 =>
  (if (ieq (lenZ r6974.length) 2) = true then
  ((J2).bind fun r6976 =>
  some (Ctl.ret (r6976)))
  else
  some (Ctl.brk ())))
  else
  some (Ctl.brk ()))
  else
  some (Ctl.brk ())))
  else
  some (Ctl.brk ())))
  else
  some (Ctl.brk ()))
  else
  some (Ctl.brk ()))))
  else
  (if (ieq p2.op 4) = true then
  (if (ieq p3.op 4) = true then
  ((X4 p2).bind fun r7025 =>
  (if r7025 = true then
  ((X4 p3).bind fun r7027 =>
  (if r7027 = true then
  (if (!ieq p2.ctor p3.ctor) = true then
  ((W0 p0 p1).bind fun r7030 =>
  (if (ieq (lenZ r7030.length) 2) = true then
  ((J2).bind fun r7032 =>
  some (Ctl.ret (r7032)))
  else
  some (Ctl.brk ())))
  else
  some (Ctl.brk ()))
  else
  some (Ctl.brk ())))
  else
  some (Ctl.brk ())))
  else
  some (Ctl.brk ()))
  else
  some (Ctl.brk ())))))
  else
  ((Q0h p3).bind fun r7164 =>
  (if r7164 = true then
  ((Y8 n [] p0 p1 p2).bind fun r7166 =>
  (if (ieq (lenZ r7166.length) 0) = true then
  some (Ctl.ret (p3))
  else
  (if (ieq p2.op 4) = true then
  (if (ieq p3.op 4) = true then
  ((X4 p2).bind fun r7205 =>
  (if r7205 = true then
  ((X4 p3).bind fun r7207 =>
  (if r7207 = true then
  (if (!ieq p2.ctor p3.ctor) = true then
  ((W0 p0 p1).bind fun r7210 =>
  (if (ieq (lenZ r7210.length) 2) = true then
  ((J2).bind fun r7212 =>
  some (Ctl.ret (r7212)))
  else
  some (Ctl.brk ())))
  else
  some (Ctl.brk ()))
  else
  some (Ctl.brk ())))
  else
  some (Ctl.brk ())))
  else
  some (Ctl.brk ()))
  else
  some (Ctl.brk ()))))
  else
  (if (ieq p2.op 4) = true then
  (if (ieq p3.op 4) = true then
  ((X4 p2).bind fun r7261 =>
  (if r7261 = true then
  ((X4 p3).bind fun r7263 =>
  (if r7263 = true then
  (if (!ieq p2.ctor p3.ctor) = true then
  ((W0 p0 p1).bind fun r7266 =>
  (if (ieq (lenZ r7266.length) 2) = true then
  ((J2).bind fun r7268 =>
  some (Ctl.ret (r7268)))
  else
  some (Ctl.brk ())))
  else
  some (Ctl.brk ()))
  else
  some (Ctl.brk ())))
  else
  some (Ctl.brk ())))
  else
  some (Ctl.brk ()))
  else
  some (Ctl.brk ())))))
  else
  ((Q0h p3).bind fun r7400 =>
  (if r7400 = true then
  ((Y8 n [] p0 p1 p2).bind fun r7402 =>
  (if (ieq (lenZ r7402.length) 0) = true then
  some (Ctl.ret (p3))
  else
  (if (ieq p2.op 4) = true then
  (if (ieq p3.op 4) = true then
  ((X4 p2).bind fun r7441 =>
  (if r7441 = true then
  ((X4 p3).bind fun r7443 =>
  (if r7443 = true then
  (if (!ieq p2.ctor p3.ctor) = true then
  ((W0 p0 p1).bind fun r7446 =>
  (if (ieq (lenZ r7446.length) 2) = true then
  ((J2).bind fun r7448 =>
  some (Ctl.ret (r7448)))
  else
  some (Ctl.brk ())))
  else
  some (Ctl.brk ()))
  else
  some (Ctl.brk ())))
  else
  some (Ctl.brk ())))
  else
  some (Ctl.brk ()))
  else
  some (Ctl.brk ()))))
  else
  (if (ieq p2.op 4) = true then
  (if (ieq p3.op 4) = true then
  ((X4 p2).bind fun r7497 =>
  (if r7497 = true then
  ((X4 p3).bind fun r7499 =>
  (if r7499 = true then
  (if (!ieq p2.ctor p3.ctor) = true then
  ((W0 p0 p1).bind fun r7502 =>
  (if (ieq (lenZ r7502.length) 2) = true then
  ((J2).bind fun r7504 =>
  some (Ctl.ret (r7504)))
  else
  some (Ctl.brk ())))
  else
  some (Ctl.brk ()))
  else
  some (Ctl.brk ())))
  else
  some (Ctl.brk ())))
  else
  some (Ctl.brk ()))
  else
  some (Ctl.brk ())))))
  else
  ((Q0h p3).bind fun r7636 =>
  (if r7636 = true then
  ((Y8 n [] p0 p1 p2).bind fun r7638 =>
  (if (ieq (lenZ r7638.length) 0) = true then
  some (Ctl.ret (p3))
  else
  (if (ieq p2.op 4) = true then
  (if (ieq p3.op 4) = true then
  ((X4 p2).bind fun r7677 =>
  (if r7677 = true then
  ((X4 p3).bind fun r7679 =>
  (if r7679 = true then
  (if (!ieq p2.ctor p3.ctor) = true then
  ((W0 p0 p1).bind fun r7682 =>
  (if (ieq (lenZ r7682.length) 2) = true then
  ((J2).bind fun r7684 =>
  some (Ctl.ret (r7684)))
  else
  some (Ctl.brk ())))
  else
  some (Ctl.brk ()))
  else
  some (Ctl.brk ())))
  else
  some (Ctl.brk ())))
  else
  some (Ctl.brk ()))
  else
  some (Ctl.brk ()))))
  else
  (if (ieq p2.op 4) = true then
  (if (ieq p3.op 4) = true then
  ((X4 p2).bind fun r7733 =>
  (if r7733 = true then
  ((X4 p3).bind fun r7735 =>
  (if r7735 = true then
  (if (!ieq p2.ctor p3.ctor) = true then
  ((W0 p0 p1).bind fun r7738 =>
  (if (ieq (lenZ r7738.length) 2) = true then
  ((J2).bind fun r7740 =>
  some (Ctl.ret (r7740)))
  else
  some (Ctl.brk ())))
  else
  some (Ctl.brk ()))
  else
  some (Ctl.brk ())))
  else
  some (Ctl.brk ())))
  else
  some (Ctl.brk ()))
  else
  some (Ctl.brk ())))))))))).bind fun (o3876 : Ctl _ (Unit)) => match o3876 with
  | .ret r => some r
  | .go _ => none
  | .brk s3875 =>
  some ((Q0.mk 5 0 0 0 0 [p2, p3])))
def Y7 : Nat → (List Q3) → Q2 → Q0 → Option (Q0)
 | 0, _, _, _ => none
 | n + 1, p0, p1, p2 =>
  (if (ieq p2.op 3) = true then
  ((Q5g p2.n p2.m).bind fun r171 =>
  some (r171))
  else
  (if (ieq p2.op 5) = true then
  ((idx p2.kids 0).bind fun x174 =>
  ((idx p2.kids 1).bind fun x175 =>
  ((Y7 n p0 p1 x174).bind fun r176 =>
  ((Y7 n p0 p1 x175).bind fun r177 =>
  ((Q6a n p0 p1 r176 r177).bind fun r178 =>
  some (r178))))))
  else
  (if (ieq p2.op 6) = true then
  ((idx p2.kids 0).bind fun x183 =>
  ((Y7 n p0 p1 x183).bind fun r184 =>
  ((Q0h r184).bind fun r188 =>
  (if r188 = true then
  some ((Q0.mk 2 0 0 0 p2.var []))
  else
  some ((Q0.mk 6 0 0 0 p2.var [r184]))))))
  else
  (if (ieq p2.op 4) = true then
  ((Q0d p0 p1 p2.ctor).bind fun r193 =>
  ((forL (fun k273 x274 (s267 : (List Q0)) =>
  ((idx p2.kids (k273 : Int)).bind fun x282 =>
  ((Y7 n p0 x274 x282).bind fun r283 =>
  ((app s267 [r283]).bind fun x284 =>
  some (Ctl.go x284))))) 0 r193 []).bind fun (o266 : Ctl _ ((List Q0))) => match o266 with
  | .ret r => some r
  | .go _ => none
  | .brk s277 =>
  ((((W0 p0 p1).bind fun r329 =>
  (if (ieq (lenZ r329.length) 1) = true then
  ((X4 (Q0.mk 4 p2.ctor 0 0 0 s277)).bind fun r331 =>
  (if r331 = true then
  ((J2).bind fun r333 =>
  some (Ctl.ret (r333)))
  else
  some (Ctl.brk ())))
  else
  some (Ctl.brk ())))).bind fun (o311 : Ctl _ (Unit)) => match o311 with
  | .ret r => some r
  | .go _ => none
  | .brk s310 =>
  some ((Q0.mk 4 p2.ctor 0 0 0 s277)))))
  else
  some (p2)))))
def Q22 (n : Nat) (p0 : (List Int)) : Option ((List Q3) × Q2 × (List Q5) × (List Q5)) :=
  ((Q2i p0).bind fun r1 =>
  ((Q1a n r1).bind fun r2 =>
  ((forL (fun k286 x287 (s280 : Z0 × (List Q5) × (List Q5)) =>
  ((W8 n x287.pat).bind fun r315 =>
  ((app s280.2.1 [(Q5.mk r315 (Q2z.mk 0 0 0))]).bind fun x316 =>
  ((((Z2 s280.1 8).bind fun r328 =>
  (if (ieq r328.1 0) = true then
  ((Q38 n r328.2 r2.1 r2.2.1).bind fun r330 =>
  ((W8 n r330.1).bind fun r331 =>
  some (Ctl.brk (r330.2, r331))))
  else
  some (Ctl.brk (r328.2, r315))))).bind fun (o325 : Ctl _ (Z0 × Q0)) => match o325 with
  | .ret r => some r
  | .go _ => none
  | .brk s324 =>
  ((Y7 n r2.1 r2.2.1 s324.2).bind fun r335 =>
  ((app s280.2.2 [(Q5.mk r335 (Q2z.mk 0 0 0))]).bind fun x336 =>
  some (Ctl.go (s324.1, x316, x336)))))))) 0 r2.2.2.1 (r2.2.2.2.2, [], [])).bind fun (o279 : Ctl _ (Z0 × (List Q5) × (List Q5))) => match o279 with
  | .ret r => some r
  | .go _ => none
  | .brk s290 =>
  ((Q2q n s290.1 s290.2.2).bind fun r339 =>
  some ((r2.1, r2.2.1, s290.2.1, r339.1))))))
def Q2w (p0 : Q5) : Option (Bool) :=
  some (!ieq p0.guard.op 0)
def Q2m (n : Nat) (p0 : (List Q3)) (p1 : Q2) (p2 : (List Q5)) : Option ((List (List Q0)) × Bool) :=
  ((forL (fun k82 x83 (s76 : (List (List Q0))) =>
  ((Q0v n p0 p1 p2 (k82 : Int)).bind fun r92 =>
  (if (!r92.2) = true then
  some (Ctl.ret (([], false)))
  else
  ((app s76 [r92.1]).bind fun x95 =>
  some (Ctl.go x95))))) 0 p2 []).bind fun (o75 : Ctl _ ((List (List Q0)))) => match o75 with
  | .ret r => some r
  | .go _ => none
  | .brk s86 =>
  ((Q1q n p0 p1 p2).bind fun r97 =>
  ((app s86 [r97.1]).bind fun x98 =>
  some ((x98, r97.2)))))
def J4 (n : Nat) (p0 : Q13) (p1 : Q2) (p2 : (List Q0)) (p3 : (List Q0)) : Option (Bool) :=
  ((forL (fun k1148 x1149 (s1142 : Unit) =>
  ((forL (fun k1340 x1341 (s1334 : Unit) =>
  ((((V1 n p0 p1 x1149 x1341).bind fun r1362 =>
  (if r1362.2 = true then
  ((V3 n p0 p1 r1362.1).bind fun r1371 =>
  (if (!r1371) = true then
  some (Ctl.ret (Ctl.ret (Ctl.ret (true))))
  else
  some (Ctl.brk ())))
  else
  some (Ctl.brk ())))).bind fun (o1359 : Ctl _ (Unit)) => match o1359 with
  | .ret r => some r
  | .go _ => none
  | .brk s1358 =>
  some (Ctl.go ()))) 0 p3 ()).bind fun (o1333 : Ctl _ (Unit)) => match o1333 with
  | .ret r => some r
  | .go _ => none
  | .brk s1344 =>
  some (Ctl.go ()))) 0 p2 ()).bind fun (o1141 : Ctl _ (Unit)) => match o1141 with
  | .ret r => some r
  | .go _ => none
  | .brk s1152 =>
  some (false))
def Q1t (n : Nat) (p0 : (List Q3)) (p1 : Q2) (p2 : (List Q5)) (p3 : (List Q5)) : Option (Bool × Bool) :=
  ((Y2 n p0 p1 p2).bind fun r104 =>
  (if (!r104) = true then
  some ((false, false))
  else
  ((Y2 n p0 p1 p3).bind fun r107 =>
  (if (!r107) = true then
  some ((false, false))
  else
  (if (!ieq (lenZ p2.length) (lenZ p3.length)) = true then
  some ((false, false))
  else
  ((V7 p2 (fun a0 => Q2w a0)).bind fun r114 =>
  (if r114 = true then
  some ((false, false))
  else
  ((V7 p3 (fun a0 => Q2w a0)).bind fun r119 =>
  (if r119 = true then
  some ((false, false))
  else
  ((Q2m n p0 p1 p2).bind fun r121 =>
  ((Q2m n p0 p1 p3).bind fun r122 =>
  (if (!r121.2) = true then
  some ((false, false))
  else
  (if (!r122.2) = true then
  some ((false, false))
  else
  ((Q2c n p0).bind fun r133 =>
  ((forL (fun k1161 x1162 (s1155 : Unit) =>
  ((forL (fun k1333 x1334 (s1327 : Unit) =>
  (((if (!ieq (k1161 : Int) (k1333 : Int)) = true then
  ((J4 n r133 p1 x1162 x1334).bind fun r1361 =>
  (if r1361 = true then
  some (Ctl.ret (Ctl.ret (Ctl.ret ((false, true)))))
  else
  some (Ctl.brk ())))
  else
  some (Ctl.brk ()))).bind fun (o1350 : Ctl _ (Unit)) => match o1350 with
  | .ret r => some r
  | .go _ => none
  | .brk s1349 =>
  some (Ctl.go ()))) 0 r122.1 ()).bind fun (o1326 : Ctl _ (Unit)) => match o1326 with
  | .ret r => some r
  | .go _ => none
  | .brk s1337 =>
  some (Ctl.go ()))) 0 r121.1 ()).bind fun (o1154 : Ctl _ (Unit)) => match o1154 with
  | .ret r => some r
  | .go _ => none
  | .brk s1165 =>
  some ((true, true)))))))))))))))))
def Q3n (n : Nat) (p0 : Q0) : Option ((List Q0)) :=
  ((W8 n p0).bind fun r1 =>
  ((Q1b n r1).bind fun r2 =>
  some (r2)))
def Q42 (p0 : Q0) (p1 : Q0) : Option ((List Q0)) :=
  (((if (ilt (wsub .i64 p1.n 1) p0.m) = true then
  some (Ctl.brk (wsub .i64 p1.n 1))
  else
  some (Ctl.brk p0.m))).bind fun (o3 : Ctl _ (Int)) => match o3 with
  | .ret r => some r
  | .go _ => none
  | .brk s2 =>
  (((if (ile p0.n s2) = true then
  ((app [] [(Q0.mk 3 0 p0.n s2 0 [])]).bind fun x14 =>
  some (Ctl.brk [(Q0.mk 3 0 p0.n s2 0 [])]))
  else
  some (Ctl.brk []))).bind fun (o10 : Ctl _ ((List Q0))) => match o10 with
  | .ret r => some r
  | .go _ => none
  | .brk s9 =>
  (((if (ilt p0.n (wadd .i64 p1.m 1)) = true then
  some (Ctl.brk (wadd .i64 p1.m 1))
  else
  some (Ctl.brk p0.n))).bind fun (o17 : Ctl _ (Int)) => match o17 with
  | .ret r => some r
  | .go _ => none
  | .brk s16 =>
  (((if (ile s16 p0.m) = true then
  ((app s9 [(Q0.mk 3 0 s16 p0.m 0 [])]).bind fun x28 =>
  some (Ctl.brk (s9 ++ [(Q0.mk 3 0 s16 p0.m 0 [])])))
  else
  some (Ctl.brk s9))).bind fun (o24 : Ctl _ ((List Q0))) => match o24 with
  | .ret r => some r
  | .go _ => none
  | .brk s23 =>
  some (s23)))))
def Q0c : Nat → Q0 → Q0 → Option (Q0 × Bool)
 | 0, _, _ => none
 | n + 1, p0, p1 =>
  (if (ieq p0.op 1) = true then
  some ((p1, true))
  else
  (if (ieq p1.op 1) = true then
  some ((p0, true))
  else
  (if (ieq p0.op 3) = true then
  (((if (ilt p0.n p1.n) = true then
  some (Ctl.brk p1.n)
  else
  some (Ctl.brk p0.n))).bind fun (o22 : Ctl _ (Int)) => match o22 with
  | .ret r => some r
  | .go _ => none
  | .brk s21 =>
  (((if (ilt p1.m p0.m) = true then
  some (Ctl.brk p1.m)
  else
  some (Ctl.brk p0.m))).bind fun (o28 : Ctl _ (Int)) => match o28 with
  | .ret r => some r
  | .go _ => none
  | .brk s27 =>
  some (((Q0.mk 3 0 s21 s27 0 []), ile s21 s27))))
  else
  (if (!ieq p0.ctor p1.ctor) = true then
  some (((Q0.mk 0 0 0 0 0 []), false))
  else
  ((forL (fun k132 x133 (s126 : (List Q0)) =>
  ((idx p1.kids (k132 : Int)).bind fun x143 =>
  ((Q0c n x133 x143).bind fun r144 =>
  (if (!r144.2) = true then
  some (Ctl.ret (((Q0.mk 0 0 0 0 0 []), false)))
  else
  ((app s126 [r144.1]).bind fun x147 =>
  some (Ctl.go x147)))))) 0 p0.kids []).bind fun (o125 : Ctl _ ((List Q0))) => match o125 with
  | .ret r => some r
  | .go _ => none
  | .brk s136 =>
  some (((Q0.mk 4 p0.ctor 0 0 0 s136), true)))))))
mutual
def Y0 : Nat → (List Q3) → Q2 → Q0 → Q0 → Option ((List Q0))
 | 0, _, _, _, _ => none
 | n + 1, p0, p1, p2, p3 =>
  (if (ieq p3.op 1) = true then
  some ([])
  else
  (if (ieq p3.op 3) = true then
  (if (ieq p2.op 1) = true then
  ((Q42 (Q0.mk 3 0 0 9 0 []) p3).bind fun r52 =>
  some (r52))
  else
  ((Q42 p2 p3).bind fun r54 =>
  some (r54)))
  else
  (if (ieq p2.op 4) = true then
  (if (!ieq p2.ctor p3.ctor) = true then
  some ([p2])
  else
  ((Q6k n p0 p1 p2 p3).bind fun r63 =>
  some (r63)))
  else
  ((W0 p0 p1).bind fun r65 =>
  ((forL (fun k155 x156 (s149 : (List Q0)) =>
  ((Q4e p0 p1 x156).bind fun r165 =>
  ((Y0 n p0 p1 r165 p3).bind fun r166 =>
  ((app s149 r166).bind fun x167 =>
  some (Ctl.go x167))))) 0 r65 []).bind fun (o148 : Ctl _ ((List Q0))) => match o148 with
  | .ret r => some r
  | .go _ => none
  | .brk s159 =>
  some (s159))))))
def Q6k : Nat → (List Q3) → Q2 → Q0 → Q0 → Option ((List Q0))
 | 0, _, _, _, _ => none
 | n + 1, p0, p1, p2, p3 =>
  ((Q0d p0 p1 p2.ctor).bind fun r1 =>
  ((forL (fun k1173 x1174 (s1167 : (List Q0) × (List Q0)) =>
  ((idx p2.kids (k1173 : Int)).bind fun x1291 =>
  ((idx p3.kids (k1173 : Int)).bind fun x1292 =>
  ((Y0 n p0 x1174 x1291 x1292).bind fun r1293 =>
  ((forL (fun k1383 x1384 (s1377 : (List Q0)) =>
  ((app [] s1167.2).bind fun x1393 =>
  ((app s1167.2 [x1384]).bind fun x1394 =>
  ((Z5o p2.kids (wadd .i64 (k1173 : Int) 1)).bind fun x1395 =>
  ((app x1394 x1395).bind fun x1396 =>
  ((app s1377 [(Q0.mk 4 p2.ctor 0 0 0 x1396)]).bind fun x1397 =>
  some (Ctl.go (s1377 ++ [(Q0.mk 4 p2.ctor 0 0 0 x1396)])))))))) 0 r1293 s1167.1).bind fun (o1376 : Ctl _ ((List Q0))) => match o1376 with
  | .ret r => some r
  | .go _ => none
  | .brk s1387 =>
  ((Q0c n x1291 x1292).bind fun r1398 =>
  (if (!r1398.2) = true then
  some (Ctl.ret (s1387))
  else
  ((app s1167.2 [r1398.1]).bind fun x1401 =>
  some (Ctl.go (s1387, x1401)))))))))) 0 r1 ([], [])).bind fun (o1166 : Ctl _ ((List Q0) × (List Q0))) => match o1166 with
  | .ret r => some r
  | .go _ => none
  | .brk s1177 =>
  some (s1177.1)))
end
def Q37 (n : Nat) (p0 : (List Q3)) (p1 : (List Int)) (p2 : Q2) (p3 : (List Q0)) : Option ((List Q0)) :=
  ((forL (fun k100 x101 (s94 : (List Q0)) =>
  ((((Q07 n p0 p1 p2 x101).bind fun r113 =>
  (if r113 = true then
  ((app s94 [x101]).bind fun x115 =>
  some (Ctl.brk x115))
  else
  some (Ctl.brk s94)))).bind fun (o110 : Ctl _ ((List Q0))) => match o110 with
  | .ret r => some r
  | .go _ => none
  | .brk s109 =>
  some (Ctl.go s109))) 0 p3 []).bind fun (o93 : Ctl _ ((List Q0))) => match o93 with
  | .ret r => some r
  | .go _ => none
  | .brk s104 =>
  some (s104))
def Q43 (n : Nat) (p0 : (List Q3)) (p1 : (List Int)) (p2 : Q2) (p3 : (List Q0)) (p4 : (List Q0)) : Option ((List Q0) × Bool) :=
  ((forL (fun k1538 x1539 (s1532 : (List Q0)) =>
  ((forL (fun k1807 x1808 (s1801 : (List Q0)) =>
  (if (ile (lenZ s1801.length) 400) = true then
  ((Y0 n p0 p2 x1808 x1539).bind fun r1819 =>
  ((Q37 n p0 p1 p2 r1819).bind fun r1820 =>
  ((app s1801 r1820).bind fun x1821 =>
  some (Ctl.go x1821))))
  else
  some (Ctl.brk s1801))) 0 s1532 []).bind fun (o1800 : Ctl _ ((List Q0))) => match o1800 with
  | .ret r => some r
  | .go _ => none
  | .brk s1811 =>
  (if (ilt 400 (lenZ s1811.length)) = true then
  some (Ctl.ret (([], false)))
  else
  some (Ctl.go s1811)))) 0 p4 p3).bind fun (o1531 : Ctl _ ((List Q0))) => match o1531 with
  | .ret r => some r
  | .go _ => none
  | .brk s1542 =>
  ((Q37 n p0 p1 p2 s1542).bind fun r1825 =>
  some ((r1825, true))))
def Q4r (n : Nat) (p0 : (List Q3)) (p1 : (List Int)) (p2 : Q2) (p3 : (List Q0)) : Option ((List Q0) × Bool) :=
  ((forL (fun k182 x183 (s176 : (List Q0)) =>
  ((subI p3 (k182 : Int) (wadd .i64 (k182 : Int) 1)).bind fun x202 =>
  ((Q73 p3 (k182 : Int)).bind fun x203 =>
  ((Q43 n p0 p1 p2 x202 x203).bind fun r204 =>
  (if (!r204.2) = true then
  some (Ctl.ret (([], false)))
  else
  (if (ilt 400 (wadd .i64 (lenZ s176.length) (lenZ r204.1.length))) = true then
  some (Ctl.ret (([], false)))
  else
  ((app s176 r204.1).bind fun x215 =>
  some (Ctl.go x215)))))))) 0 p3 []).bind fun (o175 : Ctl _ ((List Q0))) => match o175 with
  | .ret r => some r
  | .go _ => none
  | .brk s186 =>
  some ((s186, true)))
def Q5x (n : Nat) (p0 : (List Q5)) (p1 : Int) : Option ((List Q0) × Bool) :=
  ((whileL (fun (s138 : (List Q0) × Int) =>
  (if (ilt s138.2 p1) = true then
  ((((idx p0 s138.2).bind fun x166 =>
  (if (!ieq x166.guard.op 0) = true then
  some (Ctl.brk s138.1)
  else
  ((Q3n n x166.pat).bind fun r168 =>
  (if (ilt 40 (lenZ r168.length)) = true then
  some (Ctl.ret (Ctl.ret (([], false))))
  else
  ((app s138.1 r168).bind fun x171 =>
  some (Ctl.brk x171))))))).bind fun (o161 : Ctl _ ((List Q0))) => match o161 with
  | .ret r => some r
  | .go _ => none
  | .brk s160 =>
  some (Ctl.go (s160, wadd .i64 s138.2 1)))
  else
  some (Ctl.brk (s138.1, s138.2)))) n ([], 0)).bind fun (o137 : Ctl _ ((List Q0) × Int)) => match o137 with
  | .ret r => some r
  | .go _ => none
  | .brk s148 =>
  some ((s148.1, true)))
def Q3a : Nat → Q0 → Option (Q0)
 | 0, _ => none
 | n + 1, p0 =>
  ((forL (fun k70 x71 (s64 : (List Q0)) =>
  ((Q3a n x71).bind fun r78 =>
  ((app s64 [r78]).bind fun x79 =>
  some (Ctl.go x79)))) 0 p0.kids []).bind fun (o63 : Ctl _ ((List Q0))) => match o63 with
  | .ret r => some r
  | .go _ => none
  | .brk s74 =>
  some ((Q0.mk p0.op p0.ctor p0.n p0.m p0.var s74)))
def Q4c (n : Nat) (p0 : (List Q0)) : Option ((List Q0)) :=
  ((forL (fun k70 x71 (s64 : (List Q0)) =>
  ((Q3a n x71).bind fun r78 =>
  ((app s64 [r78]).bind fun x79 =>
  some (Ctl.go x79)))) 0 p0 []).bind fun (o63 : Ctl _ ((List Q0))) => match o63 with
  | .ret r => some r
  | .go _ => none
  | .brk s74 =>
  some (s74))
def Q5y (n : Nat) (p0 : (List Q3)) (p1 : Q2) (p2 : (List Q0)) (p3 : Bool) : Option ((List Q0) × Bool) :=
  ((forL (fun k68 x69 (s62 : Unit) =>
  ((Q52 n p0 p1 x69).bind fun r76 =>
  (if (!r76) = true then
  some (Ctl.ret (([], false)))
  else
  some (Ctl.go ())))) 0 p2 ()).bind fun (o61 : Ctl _ (Unit)) => match o61 with
  | .ret r => some r
  | .go _ => none
  | .brk s72 =>
  ((Q4c n p2).bind fun r79 =>
  some ((r79, p3))))
def Q5e (n : Nat) (p0 : (List Q3)) (p1 : Q2) (p2 : (List Q0)) (p3 : (List Q5)) (p4 : Int) : Option ((List Q0) × Bool) :=
  ((Q5x n p3 p4).bind fun r1 =>
  (if (!r1.2) = true then
  some (([], false))
  else
  ((Q1c n p0).bind fun r4 =>
  ((Q43 n p0 r4 p1 p2 r1.1).bind fun r5 =>
  ((Q5y n p0 p1 r5.1 r5.2).bind fun r6 =>
  some ((r6.1, r6.2)))))))
def Q1o (n : Nat) (p0 : (List Q3)) (p1 : Q2) (p2 : (List Q5)) (p3 : Int) : Option ((List Q0) × Bool) :=
  ((Y9 n p0 p1 p2).bind fun r34 =>
  (if (!r34) = true then
  some (([], false))
  else
  (if (ilt p3 0) = true then
  some (([], false))
  else
  (if (ile (lenZ p2.length) p3) = true then
  some (([], false))
  else
  ((idx p2 p3).bind fun x40 =>
  ((Q3n n x40.pat).bind fun r41 =>
  (if (ilt 40 (lenZ r41.length)) = true then
  some (([], false))
  else
  ((Q1c n p0).bind fun r44 =>
  ((Q4r n p0 r44 p1 r41).bind fun r45 =>
  (if (!r45.2) = true then
  some (([], false))
  else
  ((Q5e n p0 p1 r45.1 p2 p3).bind fun r48 =>
  some ((r48.1, r48.2)))))))))))))
def Q1p (n : Nat) (p0 : (List Q3)) (p1 : Q2) (p2 : (List Q5)) : Option ((List Q0) × Bool) :=
  ((Y9 n p0 p1 p2).bind fun r4 =>
  (if (!r4) = true then
  some (([], false))
  else
  ((J2).bind fun r6 =>
  ((Q5e n p0 p1 [r6] p2 (lenZ p2.length)).bind fun r7 =>
  some ((r7.1, r7.2))))))
def Q4v (n : Nat) (p0 : (List Q3)) (p1 : Q2) (p2 : (List Q5)) : Option ((List (List Q0)) × Bool) :=
  ((forL (fun k82 x83 (s76 : (List (List Q0))) =>
  ((Q1o n p0 p1 p2 (k82 : Int)).bind fun r92 =>
  (if (!r92.2) = true then
  some (Ctl.ret (([], false)))
  else
  ((app s76 [r92.1]).bind fun x95 =>
  some (Ctl.go x95))))) 0 p2 []).bind fun (o75 : Ctl _ ((List (List Q0)))) => match o75 with
  | .ret r => some r
  | .go _ => none
  | .brk s86 =>
  ((Q1p n p0 p1 p2).bind fun r97 =>
  ((app s86 [r97.1]).bind fun x98 =>
  some ((x98, r97.2)))))
def Q2t (p0 : (List Q5)) : Option (Bool) :=
  ((forL (fun k48 x49 (s42 : Unit) =>
  (if (!ieq x49.guard.op 0) = true then
  some (Ctl.ret (false))
  else
  some (Ctl.go ()))) 0 p0 ()).bind fun (o41 : Ctl _ (Unit)) => match o41 with
  | .ret r => some r
  | .go _ => none
  | .brk s52 =>
  some (true))
def Q3s (n : Nat) (p0 : (List Q3)) (p1 : Q2) (p2 : (List Q0)) (p3 : (List Q0)) : Option (Bool) :=
  ((Q1c n p0).bind fun r1 =>
  ((forL (fun k1189 x1190 (s1183 : Unit) =>
  ((forL (fun k1381 x1382 (s1375 : Unit) =>
  ((((Q0c n x1190 x1382).bind fun r1403 =>
  (if r1403.2 = true then
  ((Q07 n p0 r1 p1 r1403.1).bind fun r1412 =>
  (if r1412 = true then
  some (Ctl.ret (Ctl.ret (Ctl.ret (true))))
  else
  some (Ctl.brk ())))
  else
  some (Ctl.brk ())))).bind fun (o1400 : Ctl _ (Unit)) => match o1400 with
  | .ret r => some r
  | .go _ => none
  | .brk s1399 =>
  some (Ctl.go ()))) 0 p3 ()).bind fun (o1374 : Ctl _ (Unit)) => match o1374 with
  | .ret r => some r
  | .go _ => none
  | .brk s1385 =>
  some (Ctl.go ()))) 0 p2 ()).bind fun (o1182 : Ctl _ (Unit)) => match o1182 with
  | .ret r => some r
  | .go _ => none
  | .brk s1193 =>
  some (false)))
def Q45 (n : Nat) (p0 : (List Q3)) (p1 : Q2) (p2 : (List Q5)) (p3 : (List Q5)) : Option (Bool × Bool) :=
  ((Y9 n p0 p1 p2).bind fun r104 =>
  (if (!r104) = true then
  some ((false, false))
  else
  ((Y9 n p0 p1 p3).bind fun r107 =>
  (if (!r107) = true then
  some ((false, false))
  else
  (if (!ieq (lenZ p2.length) (lenZ p3.length)) = true then
  some ((false, false))
  else
  ((Q2t p2).bind fun r114 =>
  (if (!r114) = true then
  some ((false, false))
  else
  ((Q2t p3).bind fun r119 =>
  (if (!r119) = true then
  some ((false, false))
  else
  ((Q4v n p0 p1 p2).bind fun r121 =>
  ((Q4v n p0 p1 p3).bind fun r122 =>
  (if (!r121.2) = true then
  some ((false, false))
  else
  (if (!r122.2) = true then
  some ((false, false))
  else
  ((forL (fun k1376 x1377 (s1370 : Unit) =>
  ((forL (fun k1564 x1565 (s1558 : Unit) =>
  (((if (!ieq (k1376 : Int) (k1564 : Int)) = true then
  ((Q3s n p0 p1 x1377 x1565).bind fun r1592 =>
  (if r1592 = true then
  some (Ctl.ret (Ctl.ret (Ctl.ret ((false, true)))))
  else
  some (Ctl.brk ())))
  else
  some (Ctl.brk ()))).bind fun (o1581 : Ctl _ (Unit)) => match o1581 with
  | .ret r => some r
  | .go _ => none
  | .brk s1580 =>
  some (Ctl.go ()))) 0 r122.1 ()).bind fun (o1557 : Ctl _ (Unit)) => match o1557 with
  | .ret r => some r
  | .go _ => none
  | .brk s1568 =>
  some (Ctl.go ()))) 0 r121.1 ()).bind fun (o1369 : Ctl _ (Unit)) => match o1369 with
  | .ret r => some r
  | .go _ => none
  | .brk s1380 =>
  some ((true, true))))))))))))))))
def Q2n (n : Nat) (p0 : (List Q3)) (p1 : Q2) (p2 : (List Q5)) (p3 : Q4) : Option (Int × (List X3) × Bool) :=
  ((Y2 n p0 p1 p2).bind fun r34 =>
  (if (!r34) = true then
  some (((-1), [], false))
  else
  ((Q3u n p0 p1 p3).bind fun r37 =>
  (if (!r37) = true then
  some (((-1), [], false))
  else
  ((Q6x n p2 p3).bind fun r39 =>
  some ((r39.1, r39.2, true)))))))
def Q1r (n : Nat) (p0 : (List Int)) (p1 : (List Int)) : Option (Bool) :=
  (if (ilt 1048576 (lenZ p0.length)) = true then
  some (true)
  else
  (if (ilt 1048576 (lenZ p1.length)) = true then
  some (true)
  else
  ((Q22 n p0).bind fun r11 =>
  ((Q1t n r11.1 r11.2.1 r11.2.2.1 r11.2.2.2).bind fun r12 =>
  ((Q45 n r11.1 r11.2.1 r11.2.2.1 r11.2.2.2).bind fun r13 =>
  (if (!(r12.2 == r13.2)) = true then
  (if (r12.2 == r13.2) = true then
  some ((r12.1 == r13.1))
  else
  some (false))
  else
  (if (!(r12.1 == r13.1)) = true then
  (if (r12.2 == r13.2) = true then
  some ((r12.1 == r13.1))
  else
  some (false))
  else
  (if (!r12.2) = true then
  (if (r12.2 == r13.2) = true then
  some ((r12.1 == r13.1))
  else
  some (false))
  else
  ((Q1s n r11.1 r11.2.1 (wadd .i64 1 (wrem (lenZ p1.length) 3))).bind fun r54 =>
  ((forL (fun k176 x177 (s170 : Unit) =>
  (if r12.1 = true then
  ((Q2n n r11.1 r11.2.1 r11.2.2.1 x177).bind fun r188 =>
  ((Q2n n r11.1 r11.2.1 r11.2.2.2 x177).bind fun r189 =>
  (if (!ieq r188.1 r189.1) = true then
  some (Ctl.ret (false))
  else
  some (Ctl.go ()))))
  else
  some (Ctl.brk ()))) 0 r54.1 ()).bind fun (o169 : Ctl _ (Unit)) => match o169 with
  | .ret r => some r
  | .go _ => none
  | .brk s180 =>
  ((Q1t n r11.1 r11.2.1 r11.2.2.2 r11.2.2.1).bind fun r193 =>
  ((Q1t n r11.1 r11.2.1 r11.2.2.1 r11.2.2.1).bind fun r194 =>
  (if r193.2 = true then
  (if (r193.1 == r12.1) = true then
  (if r194.2 = true then
  some (r194.1)
  else
  some (false))
  else
  some (false))
  else
  some (false))))))))))))))
def Q34 (p0 : (List Q0)) (p1 : (List Q0)) (p2 : (Q0 → Q0 → Option Bool)) : Option (Bool) :=
  (if (!ieq (lenZ p0.length) (lenZ p1.length)) = true then
  some (false)
  else
  ((forL (fun k80 x81 (s74 : Unit) =>
  ((idx p1 (k80 : Int)).bind fun x89 =>
  ((p2 x81 x89).bind fun r90 =>
  (if (!r90) = true then
  some (Ctl.ret (false))
  else
  some (Ctl.go ()))))) 0 p0 ()).bind fun (o73 : Ctl _ (Unit)) => match o73 with
  | .ret r => some r
  | .go _ => none
  | .brk s84 =>
  some (true)))
end Go.Proofs.YtbdkbdafhlcilaaGreat
