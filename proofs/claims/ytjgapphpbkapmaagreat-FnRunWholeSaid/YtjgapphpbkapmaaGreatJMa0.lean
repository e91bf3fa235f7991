import Derived.Test.YtjgapphpbkapmaaGreatJMir
set_option linter.unusedSimpArgs false
set_option linter.unusedVariables false
namespace Go.Proofs.YtjgapphpbkapmaaGreat
open Go Go.RowKit
def Q6a (p0:Q1) (p1:(List Int)):Option (Q1):=
  ((forL (fun k50 x51 (s44:Q1)=>
  ((idx s44.kids x51).bind fun x56=>
  some (Ctl.go x56))) 0 p1 p0).bind fun (o43:Ctl _ (Q1))=>match o43 with
  | .ret r=>some r
  | .go _=>none
  | .brk s54=>
  some (s54))
def Q6h (n:Nat) (p0:(List Q2)) (p1:Q1):Option ((List X8)):=
  ((forL (fun k90 x91 (s84:(List X8))=>
  ((Q6a p1 x91.path).bind fun r100=>
  ((Q1i n r100).bind fun r101=>
  ((app s84 [(X8.mk x91.var r101)]).bind fun x102=>
  some (Ctl.go x102))))) 0 p0 []).bind fun (o83:Ctl _ ((List X8)))=>match o83 with
  | .ret r=>some r
  | .go _=>none
  | .brk s94=>
  some (s94))
def Q5x (n:Nat) (p0:X9) (p1:(List Q6)) (p2:Q1):Option (Int×(List X8)×Int):=
  ((whileL (fun (s44:X9×Int)=>
  (if (ieq s44.1.op 2)=true then
  ((Q6a p2 s44.1.path).bind fun r56=>
  ((Q0e s44.1.branches (fun a0=>Q2k a0 r56)).bind fun r57=>
  (if (ilt r57 0)=true then
  some (Ctl.ret (((-1),[],wadd .i64 s44.2 1)))
  else
  ((idx s44.1.branches r57).bind fun x60=>
  some (Ctl.go (x60.tree,wadd .i64 s44.2 1))))))
  else
  (if (ieq s44.1.op 1)=true then
  ((Q6h n s44.1.binds p2).bind fun r64=>
  ((idx p1 s44.1.clause).bind fun x69=>
  ((Q03 x69.guard r64).bind fun r70=>
  (if r70=true then
  some (Ctl.ret ((s44.1.clause,r64,s44.2)))
  else
  ((idx s44.1.else_ 0).bind fun x72=>
  some (Ctl.go (x72,s44.2)))))))
  else
  some (Ctl.ret (((-1),[],s44.2)))))) n (p0,0)).bind fun (o43:Ctl _ (X9×Int))=>match o43 with
  | .ret r=>some r
  | .go _=>none
  | .brk s54=>
  none)
def Q4w (n:Nat) (p0:(List Q3)) (p1:Q4) (p2:(List Q6)) (p3:Int) (p4:Q1):Option (Int×(List X8)×Int):=
  ((V4 n p0 p1 p2 p3).bind fun r1=>
  (if (!r1.2)=true then
  some (((-1),[],(-1)))
  else
  ((Q3v n p0 p1 p4).bind fun r21=>
  (if (!r21)=true then
  some (((-1),[],(-1)))
  else
  ((Q5x n r1.1 p2 p4).bind fun r23=>
  some ((r23.1,r23.2.1,r23.2.2)))))))
def Q1r (n:Nat) (p0:(List Int)):Option ((List Q3)×Q4×(List Q6)×Int×Q1):=
  ((Q0x n p0).bind fun r1=>
  some ((r1.1,r1.2.1,r1.2.2.1,r1.2.2.2.1,r1.2.2.2.2)))
def Q2y (n:Nat) (p0:(List Int)):Option (Bool):=
  (if (ilt 1048576 (lenZ p0.length))=true then
  some (true)
  else
  ((Q1r n p0).bind fun r3=>
  ((Q19 n r3.1 r3.2.1 r3.2.2.1 r3.2.2.2.1 r3.2.2.2.2).bind fun r4=>
  ((Q1y n r3.1 r3.2.1 r3.2.2.1 r3.2.2.2.1 r3.2.2.2.2).bind fun r5=>
  ((Q4w n r3.1 r3.2.1 r3.2.2.1 r3.2.2.2.1 r3.2.2.2.2).bind fun r6=>
  (if (!ieq r4.1 r5.1)=true then
  (if (ieq r4.1 r5.1)=true then
  (if (r4.2.2==r5.2.2)=true then
  ((Q02 r4.2.1 r5.2.1).bind fun r143=>
  some (r143))
  else
  some (false))
  else
  some (false))
  else
  (if (!(r4.2.2==r5.2.2))=true then
  (if (ieq r4.1 r5.1)=true then
  (if (r4.2.2==r5.2.2)=true then
  ((Q02 r4.2.1 r5.2.1).bind fun r152=>
  some (r152))
  else
  some (false))
  else
  some (false))
  else
  ((Q02 r4.2.1 r5.2.1).bind fun r154=>
  (if (!r154)=true then
  (if (ieq r4.1 r5.1)=true then
  (if (r4.2.2==r5.2.2)=true then
  ((Q02 r4.2.1 r5.2.1).bind fun r162=>
  some (r162))
  else
  some (false))
  else
  some (false))
  else
  (if (ilt r6.2.2 0)=true then
  (if (ieq r4.1 r5.1)=true then
  (if (r4.2.2==r5.2.2)=true then
  ((Q02 r4.2.1 r5.2.1).bind fun r172=>
  some (r172))
  else
  some (false))
  else
  some (false))
  else
  (if r4.2.2=true then
  (if (ieq r4.1 r6.1)=true then
  some (ieq (lenZ r4.2.1.length) 0)
  else
  some (false))
  else
  some (false))))))))))))
end Go.Proofs.YtjgapphpbkapmaaGreat
