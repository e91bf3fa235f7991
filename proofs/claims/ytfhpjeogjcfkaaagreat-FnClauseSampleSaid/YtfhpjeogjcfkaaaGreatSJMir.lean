import Derived.Test.YtfhpjeogjcfkaaaGreatSJDat
set_option linter.unusedSimpArgs false
set_option linter.unusedVariables false
namespace Go.Proofs.YtfhpjeogjcfkaaaGreat
open Go Go.RowKit
def Z4 (p0:Z0)(p1:Int):Option (Int×Z0):=
  (if (ilt p1 1)=true then
  some ((0,(Z0.mk p0.b (wadd .i64 p0.p 1))))
  else
  (if (ieq (lenZ p0.b.length) 0)=true then
  some ((0,(Z0.mk p0.b (wadd .i64 p0.p 1))))
  else
  (if (ilt (wsub .i64 (wadd .i64 p0.p 1) 1) (lenZ p0.b.length))=true then
  ((idx p0.b (wsub .i64 (wadd .i64 p0.p 1) 1)).bind fun x15=>
  ((chk (!ieq p1 0)).bind fun x16=>
  some ((wrem (wcv .i64 x15) p1,(Z0.mk p0.b (wadd .i64 p0.p 1))))))
  else
  ((chk (!ieq (lenZ p0.b.length) 0)).bind fun x17=>
  ((idx p0.b (wrem (wsub .i64 (wadd .i64 p0.p 1) 1) (lenZ p0.b.length))).bind fun x18=>
  ((idx p0.b (wrem (wadd .i64 (wmul .i64 (wsub .i64 (wadd .i64 p0.p 1) 1) 7) 3) (lenZ p0.b.length))).bind fun x19=>
  ((chk (!ieq p1 0)).bind fun x20=>
  some ((wrem (wxor .i64 (wadd .i64 (wadd .i64 (wadd .i64 (wmul .i64 (wcv .i64 x18) 131) (wmul .i64 (wcv .i64 x19) 1117)) (wmul .i64 (wsub .i64 (wadd .i64 p0.p 1) 1) 29)) (wmul .i64 (wquo .i64 (wsub .i64 (wadd .i64 p0.p 1) 1) (lenZ p0.b.length)) 53)) (wquo .i64 (wadd .i64 (wadd .i64 (wadd .i64 (wmul .i64 (wcv .i64 x18) 131) (wmul .i64 (wcv .i64 x19) 1117)) (wmul .i64 (wsub .i64 (wadd .i64 p0.p 1) 1) 29)) (wmul .i64 (wquo .i64 (wsub .i64 (wadd .i64 p0.p 1) 1) (lenZ p0.b.length)) 53)) 64)) p1,(Z0.mk p0.b (wadd .i64 p0.p 1)))))))))))
def W2 (p0:Z0)(p1:(List Int)):Option (Int×Z0):=
  ((Z4 p0 (lenZ p1.length)).bind fun r1=>
  ((idx p1 r1.1).bind fun x2=>
  some ((x2,r1.2))))
def Q2a (p0:Z0)(p1:Q0):Option (Q0×Z0):=
  ((app [] p1.kids).bind fun x1=>
  ((((Z4 p0 30).bind fun r26=>
  (if (ieq r26.1 0)=true then
  ((W2 r26.2 [0,7,1,2,5]).bind fun r28=>
  some (Ctl.brk (r28.2,r28.1,p1.ctor,p1.n,p1.var,p1.kids)))
  else
  (if (ieq r26.1 1)=true then
  ((W2 r26.2 [6,(-1),1]).bind fun r31=>
  some (Ctl.brk (r31.2,p1.op,p1.ctor,p1.n,r31.1,p1.kids)))
  else
  (if (ieq r26.1 2)=true then
  ((W2 r26.2 [9,(-1),1]).bind fun r34=>
  some (Ctl.brk (r34.2,p1.op,r34.1,p1.n,p1.var,p1.kids)))
  else
  (if (ieq r26.1 3)=true then
  ((app p1.kids [(Q0.mk 2 0 0 0 0 [])]).bind fun x37=>
  some (Ctl.brk (r26.2,p1.op,p1.ctor,p1.n,p1.var,(p1.kids++[(Q0.mk 2 0 0 0 0 [])]))))
  else
  (if (ieq r26.1 4)=true then
  (if (ilt 0 (lenZ p1.kids.length))=true then
  ((idx p1.kids 0).bind fun x40=>
  ((setI p1.kids 0 (Q0.mk 2 0 0 0 0 [])).bind fun x41=>
  some (Ctl.brk (r26.2,p1.op,p1.ctor,p1.n,p1.var,x41))))
  else
  some (Ctl.brk (r26.2,p1.op,p1.ctor,p1.n,p1.var,p1.kids)))
  else
  (if (ieq r26.1 5)=true then
  ((W2 r26.2 [10,(-1),5]).bind fun r43=>
  some (Ctl.brk (r43.2,p1.op,p1.ctor,r43.1,p1.var,p1.kids)))
  else
  some (Ctl.brk (r26.2,p1.op,p1.ctor,p1.n,p1.var,p1.kids)))))))))).bind fun (o23:Ctl _ (Z0×Int×Int×Int×Int×(List Q0)))=>match o23 with
  | .ret r=>some r
  | .go _=>none
  | .brk s22=>
  some (((Q0.mk s22.2.1 s22.2.2.1 s22.2.2.2.1 p1.m s22.2.2.2.2.1 s22.2.2.2.2.2),s22.1))))
def Q2s (n:Nat)(p0:Z0)(p1:(List Q5)):Option ((List Q5)×Z0):=
  ((app [] p1).bind fun x1=>
  ((((Z4 p0 24).bind fun r49=>
  (if (ieq r49.1 0)=true then
  (if (ilt 0 (lenZ p1.length))=true then
  ((W2 r49.2 [1,2,3,(-1)]).bind fun r52=>
  ((W2 r52.2 [0,5,9]).bind fun r53=>
  ((W2 r53.2 [3,10,(-1)]).bind fun r54=>
  ((idx p1 0).bind fun x55=>
  ((setI p1 0 (Q5.mk x55.pat (Q34.mk r52.1 r53.1 r54.1))).bind fun x56=>
  some (Ctl.brk (r54.2,x56)))))))
  else
  some (Ctl.brk (r49.2,p1)))
  else
  (if (ieq r49.1 1)=true then
  (if (ilt 0 (lenZ p1.length))=true then
  ((idx p1 0).bind fun x62=>
  ((Q2a r49.2 x62.pat).bind fun r63=>
  ((Q2a r63.2 r63.1).bind fun r64=>
  ((setI p1 0 (Q5.mk r64.1 x62.guard)).bind fun x65=>
  some (Ctl.brk (r64.2,x65))))))
  else
  some (Ctl.brk (r49.2,p1)))
  else
  (if (ieq r49.1 2)=true then
  ((whileL (fun (s77:(List Q5))=>
  (if (ile (lenZ s77.length) 8)=true then
  ((app s77 [(Q5.mk (Q0.mk 1 0 0 0 0 []) (Q34.mk 0 0 0))]).bind fun x90=>
  some (Ctl.go (s77++[(Q5.mk (Q0.mk 1 0 0 0 0 []) (Q34.mk 0 0 0))])))
  else
  some (Ctl.brk s77))) n p1).bind fun (o76:Ctl _ ((List Q5)))=>match o76 with
  | .ret r=>some r
  | .go _=>none
  | .brk s87=>
  some (Ctl.brk (r49.2,s87)))
  else
  some (Ctl.brk (r49.2,p1))))))).bind fun (o46:Ctl _ (Z0×(List Q5)))=>match o46 with
  | .ret r=>some r
  | .go _=>none
  | .brk s45=>
  some ((s45.2,s45.1))))
def Q6l (p0:Int):Option (Int):=
  (if (ieq p0 5)=true then
  some (2)
  else
  (if (ieq p0 6)=true then
  some (1)
  else
  (if (ieq p0 4)=true then
  some ((-1))
  else
  some (0))))
def Q86 (p0:Q7e)(p1:Int):Option (Int):=
  (if (ieq p0.index 0)=true then
  some (p1)
  else
  some (p0.index))
def J4 (p0:(List Q4))(p1:Q1)(p2:Int):Option ((List Q1)):=
  ((idx p0 p1.data).bind fun x1=>
  ((idx x1.ctors p2).bind fun x2=>
  ((forL (fun k152 x153 (s146:(List Q1))=>
  (((if (ieq x153.index (-1))=true then
  ((Q86 x2 p1.index).bind fun r176=>
  some (Ctl.brk r176))
  else
  some (Ctl.brk x153.index))).bind fun (o172:Ctl _ (Int))=>match o172 with
  | .ret r=>some r
  | .go _=>none
  | .brk s171=>
  ((app s146 [(Q1.mk x153.data s171)]).bind fun x178=>
  some (Ctl.go x178)))) 0 x2.args []).bind fun (o145:Ctl _ ((List Q1)))=>match o145 with
  | .ret r=>some r
  | .go _=>none
  | .brk s156=>
  some (s156))))
def Q2l (n:Nat)(p0:(List Q4))(p1:Q1)(p2:Q0):Option ((List Q1)):=
  (if (ieq p2.op 4)=true then
  ((J4 p0 p1 p2.ctor).bind fun r5=>
  some (r5))
  else
  ((whileL (fun (s66:(List Q1)×Int)=>
  ((Q6l p2.op).bind fun r80=>
  (if (ilt s66.2 r80)=true then
  ((app s66.1 [p1]).bind fun x83=>
  some (Ctl.go (x83,wadd .i64 s66.2 1)))
  else
  some (Ctl.brk (s66.1,s66.2))))) n ([],0)).bind fun (o65:Ctl _ ((List Q1)×Int))=>match o65 with
  | .ret r=>some r
  | .go _=>none
  | .brk s76=>
  some (s76.1)))
def Q14:Nat→(List Q9)→(List Q4)→Q1→Q0→Option ((List Q9))
 | 0,_,_,_,_=>none
 | n+1,p0,p1,p2,p3=>
  (((if (ieq p3.op 2)=true then
  ((app p0 [(Q9.mk p3.var p2)]).bind fun x20=>
  some (Ctl.brk x20))
  else
  (if (ieq p3.op 6)=true then
  ((app p0 [(Q9.mk p3.var p2)]).bind fun x22=>
  some (Ctl.brk x22))
  else
  some (Ctl.brk p0)))).bind fun (o11:Ctl _ ((List Q9)))=>match o11 with
  | .ret r=>some r
  | .go _=>none
  | .brk s10=>
  ((Q2l n p1 p2 p3).bind fun r23=>
  ((forL (fun k179 x180 (s173:(List Q9))=>
  (((if (ieq (k179:Int) 0)=true then
  some (Ctl.brk ())
  else
  (if (!ieq p3.op 5)=true then
  some (Ctl.brk ())
  else
  some (Ctl.ret (Ctl.brk s173))))).bind fun (o190:Ctl _ (Unit))=>match o190 with
  | .ret r=>some r
  | .go _=>none
  | .brk s189=>
  ((idx p3.kids (k179:Int)).bind fun x201=>
  ((Q14 n s173 p1 x180 x201).bind fun r202=>
  some (Ctl.go r202))))) 0 r23 s10).bind fun (o172:Ctl _ ((List Q9)))=>match o172 with
  | .ret r=>some r
  | .go _=>none
  | .brk s183=>
  some (s183))))
def Q2i:Nat→Z0→Q0→Int→Option (Q0×Int×Z0)
 | 0,_,_,_=>none
 | n+1,p0,p1,p2=>
  (if (ilt 5 p2)=true then
  some ((p1,p2,p0))
  else
  (if (ieq p1.op 5)=true then
  some ((p1,p2,p0))
  else
  (if (ieq p1.op 3)=true then
  some ((p1,p2,p0))
  else
  (((if (ieq p1.op 1)=true then
  ((Z4 p0 2).bind fun r40=>
  (if (ieq r40.1 0)=true then
  some (Ctl.ret (((Q0.mk 2 0 0 0 p2 []),wadd .i64 p2 1,r40.2)))
  else
  some (Ctl.brk r40.2)))
  else
  some (Ctl.brk p0))).bind fun (o29:Ctl _ (Z0))=>match o29 with
  | .ret r=>some r
  | .go _=>none
  | .brk s28=>
  ((forL (fun k116 x117 (s110:Z0×(List Q0)×Int)=>
  ((Q2i n s110.1 x117 s110.2.2).bind fun r124=>
  ((app s110.2.1 [r124.1]).bind fun x125=>
  some (Ctl.go (r124.2.2,x125,r124.2.1))))) 0 p1.kids (s28,[],p2)).bind fun (o109:Ctl _ (Z0×(List Q0)×Int))=>match o109 with
  | .ret r=>some r
  | .go _=>none
  | .brk s120=>
  (((if (ile s120.2.2 5)=true then
  ((Z4 s120.1 6).bind fun r150=>
  (if (ieq r150.1 0)=true then
  some (Ctl.ret (((Q0.mk 6 0 0 0 s120.2.2 [(Q0.mk p1.op p1.ctor p1.n p1.m p1.var s120.2.1)]),wadd .i64 s120.2.2 1,r150.2)))
  else
  some (Ctl.brk r150.2)))
  else
  some (Ctl.brk s120.1))).bind fun (o139:Ctl _ (Z0))=>match o139 with
  | .ret r=>some r
  | .go _=>none
  | .brk s138=>
  some (((Q0.mk p1.op p1.ctor p1.n p1.m p1.var s120.2.1),s120.2.2,s138))))))))
def Q9o (p0:Q7e)(p1:Int):Option (Bool):=
  (if (ieq p0.index 0)=true then
  some (true)
  else
  (if (ieq p1 0)=true then
  some (true)
  else
  some (ieq p0.index p1)))
def Q08 (p0:(List Q4))(p1:Q1):Option ((List Int)):=
  (if (ieq p1.data (-1))=true then
  some ([])
  else
  ((idx p0 p1.data).bind fun x138=>
  ((forL (fun k180 x181 (s174:(List Int))=>
  ((((Q9o x181 p1.index).bind fun r193=>
  (if r193=true then
  ((app s174 [(k180:Int)]).bind fun x195=>
  some (Ctl.brk x195))
  else
  some (Ctl.brk s174)))).bind fun (o190:Ctl _ ((List Int)))=>match o190 with
  | .ret r=>some r
  | .go _=>none
  | .brk s189=>
  some (Ctl.go s189))) 0 x138.ctors []).bind fun (o173:Ctl _ ((List Int)))=>match o173 with
  | .ret r=>some r
  | .go _=>none
  | .brk s184=>
  some (s184))))
def Q15:Nat→Z0→(List Q4)→Q1→Int→Option (Q0×Z0)
 | 0,_,_,_,_=>none
 | n+1,p0,p1,p2,p3=>
  (if (ilt p3 2)=true then
  some (((Q0.mk 1 0 0 0 0 []),p0))
  else
  ((Z4 p0 4).bind fun r20=>
  (if (ieq r20.1 0)=true then
  some (((Q0.mk 1 0 0 0 0 []),r20.2))
  else
  ((Z4 r20.2 6).bind fun r29=>
  (if (ieq r29.1 0)=true then
  ((Q15 n r29.2 p1 p2 (wsub .i64 p3 1)).bind fun r31=>
  ((Q15 n r31.2 p1 p2 (wsub .i64 p3 1)).bind fun r32=>
  some (((Q0.mk 5 0 0 0 0 [r31.1,r32.1]),r32.2))))
  else
  (if (ieq p2.data (-1))=true then
  ((Z4 r29.2 10).bind fun r43=>
  ((Z4 r43.2 (wsub .i64 10 r43.1)).bind fun r44=>
  ((Z4 r44.2 2).bind fun r45=>
  some (((Q0.mk 3 0 r43.1 (wadd .i64 r43.1 (wmul .i64 r44.1 r45.1)) 0 []),r45.2)))))
  else
  ((Q08 p1 p2).bind fun r49=>
  (if (ieq (lenZ r49.length) 0)=true then
  some (((Q0.mk 1 0 0 0 0 []),r29.2))
  else
  ((Z4 r29.2 (lenZ r49.length)).bind fun r52=>
  ((idx r49 r52.1).bind fun x53=>
  ((J4 p1 p2 x53).bind fun r54=>
  ((forL (fun k126 x127 (s120:Z0×(List Q0))=>
  ((Q15 n s120.1 p1 x127 (wsub .i64 p3 1)).bind fun r134=>
  ((app s120.2 [r134.1]).bind fun x135=>
  some (Ctl.go (r134.2,x135))))) 0 r54 (r52.2,[])).bind fun (o119:Ctl _ (Z0×(List Q0)))=>match o119 with
  | .ret r=>some r
  | .go _=>none
  | .brk s130=>
  some (((Q0.mk 4 x53 0 0 0 s130.2),s130.1))))))))))))))
def Q59 (p0:(List Int))(p1:Int):Option (Bool):=
  ((forL (fun k48 x49 (s42:Unit)=>
  (if (ieq x49 p1)=true then
  some (Ctl.ret (true))
  else
  some (Ctl.go ()))) 0 p0 ()).bind fun (o41:Ctl _ (Unit))=>match o41 with
  | .ret r=>some r
  | .go _=>none
  | .brk s52=>
  some (false))
def Q7b (p0:(List Q4))(p1:Q1)(p2:Q0):Option (Bool):=
  (((if (ieq p2.op 2)=true then
  some (Ctl.brk true)
  else
  some (Ctl.brk (ieq p2.op 6)))).bind fun (o3:Ctl _ (Bool))=>match o3 with
  | .ret r=>some r
  | .go _=>none
  | .brk s2=>
  (((if s2=true then
  (if (ilt p2.var 0)=true then
  some (Ctl.ret (false))
  else
  (if (ilt 5 p2.var)=true then
  some (Ctl.ret (false))
  else
  some (Ctl.brk ())))
  else
  (if (!ieq p2.var 0)=true then
  some (Ctl.ret (false))
  else
  some (Ctl.brk ())))).bind fun (o19:Ctl _ (Unit))=>match o19 with
  | .ret r=>some r
  | .go _=>none
  | .brk s18=>
  (((if (!ieq p2.op 3)=true then
  (if (!ieq p2.n 0)=true then
  some (Ctl.ret (false))
  else
  (if (!ieq p2.m 0)=true then
  some (Ctl.ret (false))
  else
  (if (!ieq p2.op 4)=true then
  (if (!ieq p2.ctor 0)=true then
  some (Ctl.ret (false))
  else
  some (Ctl.brk ()))
  else
  some (Ctl.brk ()))))
  else
  (if (!ieq p2.op 4)=true then
  (if (!ieq p2.ctor 0)=true then
  some (Ctl.ret (false))
  else
  some (Ctl.brk ()))
  else
  some (Ctl.brk ())))).bind fun (o53:Ctl _ (Unit))=>match o53 with
  | .ret r=>some r
  | .go _=>none
  | .brk s52=>
  (((if (ieq p2.op 1)=true then
  some (Ctl.brk (ieq p2.op 1))
  else
  (if (ieq p2.op 2)=true then
  some (Ctl.brk (ieq p2.op 2))
  else
  (if (ieq p2.op 5)=true then
  some (Ctl.brk (ieq p2.op 5))
  else
  some (Ctl.brk (ieq p2.op 6)))))).bind fun (o102:Ctl _ (Bool))=>match o102 with
  | .ret r=>some r
  | .go _=>none
  | .brk s101=>
  (if s101=true then
  some (true)
  else
  (if (ieq p2.op 3)=true then
  (if (ieq p1.data (-1))=true then
  (if (ile 0 p2.n)=true then
  (if (ile p2.n p2.m)=true then
  some (ile p2.m 9)
  else
  some (false))
  else
  some (false))
  else
  some (false))
  else
  (if (ieq p2.op 4)=true then
  ((Q08 p0 p1).bind fun r117=>
  ((Q59 r117 p2.ctor).bind fun r118=>
  some (r118)))
  else
  some (false))))))))
def Q2m:Nat→(List Q4)→Q1→Q0→Int→Option (Bool)
 | 0,_,_,_,_=>none
 | n+1,p0,p1,p2,p3=>
  (if (ilt p3 1)=true then
  some (false)
  else
  ((Q7b p0 p1 p2).bind fun r20=>
  (if (!r20)=true then
  some (false)
  else
  ((Q2l n p0 p1 p2).bind fun r22=>
  (if (!ieq (lenZ p2.kids.length) (lenZ r22.length))=true then
  some (false)
  else
  ((forL (fun k102 x103 (s96:Unit)=>
  ((idx p2.kids (k102:Int)).bind fun x111=>
  ((Q2m n p0 x103 x111 (wsub .i64 p3 1)).bind fun r112=>
  (if (!r112)=true then
  some (Ctl.ret (false))
  else
  some (Ctl.go ()))))) 0 r22 ()).bind fun (o95:Ctl _ (Unit))=>match o95 with
  | .ret r=>some r
  | .go _=>none
  | .brk s106=>
  some (true)))))))
def Q3r:Nat→Q0→Int→Option (Int)
 | 0,_,_=>none
 | n+1,p0,p1=>
  ((forL (fun k94 x95 (s88:Int)=>
  (if (ile s88 p1)=true then
  ((Q3r n x95 (wsub .i64 p1 s88)).bind fun r103=>
  some (Ctl.go (wadd .i64 s88 r103)))
  else
  some (Ctl.brk s88))) 0 p0.kids 1).bind fun (o87:Ctl _ (Int))=>match o87 with
  | .ret r=>some r
  | .go _=>none
  | .brk s98=>
  some (s98))
def Q3d (p0:(List Q9))(p1:Int):Option (Int):=
  ((forL (fun k48 x49 (s42:Unit)=>
  (if (ieq x49.var p1)=true then
  some (Ctl.ret ((k48:Int)))
  else
  some (Ctl.go ()))) 0 p0 ()).bind fun (o41:Ctl _ (Unit))=>match o41 with
  | .ret r=>some r
  | .go _=>none
  | .brk s52=>
  some ((-1)))
def Q4z (p0:(List Q9))(p1:(List Q9)):Option (Bool):=
  ((forL (fun k138 x139 (s132:Unit)=>
  ((Q3d p1 x139.var).bind fun r153=>
  (if (ilt r153 0)=true then
  some (Ctl.ret (false))
  else
  ((idx p1 r153).bind fun x160=>
  (if (!Q7j [ieq x160.typ.data x139.typ.data,ieq x160.typ.index x139.typ.index])=true then
  some (Ctl.ret (false))
  else
  some (Ctl.go ())))))) 0 p0 ()).bind fun (o131:Ctl _ (Unit))=>match o131 with
  | .ret r=>some r
  | .go _=>none
  | .brk s142=>
  some (ieq (lenZ p0.length) (lenZ p1.length)))
def Q2u:Nat→(List Q4)→Q1→Q0→Option (Bool)
 | 0,_,_,_=>none
 | n+1,p0,p1,p2=>
  ((Q2l n p0 p1 p2).bind fun r1=>
  ((forL (fun k79 x80 (s73:Unit)=>
  ((idx p2.kids (k79:Int)).bind fun x88=>
  ((Q2u n p0 x80 x88).bind fun r89=>
  (if (!r89)=true then
  some (Ctl.ret (false))
  else
  some (Ctl.go ()))))) 0 r1 ()).bind fun (o72:Ctl _ (Unit))=>match o72 with
  | .ret r=>some r
  | .go _=>none
  | .brk s83=>
  (if (ieq p2.op 5)=true then
  ((idx p2.kids 0).bind fun x102=>
  ((idx p2.kids 1).bind fun x103=>
  ((Q14 n [] p0 p1 x102).bind fun r104=>
  ((Q14 n [] p0 p1 x103).bind fun r105=>
  ((Q4z r104 r105).bind fun r106=>
  some (r106))))))
  else
  ((Q14 n [] p0 p1 p2).bind fun r110=>
  ((forL (fun k178 x179 (s172:Unit)=>
  ((Q3d r110 x179.var).bind fun r186=>
  (if (!ieq r186 (k178:Int))=true then
  some (Ctl.ret (false))
  else
  some (Ctl.go ())))) 0 r110 ()).bind fun (o171:Ctl _ (Unit))=>match o171 with
  | .ret r=>some r
  | .go _=>none
  | .brk s182=>
  some (true))))))
def Q4k (n:Nat)(p0:(List Q4))(p1:Q1)(p2:Q0):Option (Bool):=
  ((Q2m n p0 p1 p2 10).bind fun r12=>
  (if r12=true then
  ((Q3r n p2 60).bind fun r14=>
  (if (ile r14 60)=true then
  ((Q2u n p0 p1 p2).bind fun r16=>
  some (r16))
  else
  some (false)))
  else
  some (false)))
def Q4j (n:Nat)(p0:Z0)(p1:(List Q4))(p2:Q1):Option (Q0×Z0):=
  ((W2 p0 [3,2,4,1]).bind fun r1=>
  ((Q15 n r1.2 p1 p2 r1.1).bind fun r2=>
  ((Q2i n r2.2 r2.1 0).bind fun r3=>
  ((Q4k n p1 p2 r3.1).bind fun r7=>
  (if (!r7)=true then
  some (((Q0.mk 1 0 0 0 0 []),r3.2.2))
  else
  some ((r3.1,r3.2.2)))))))
def Q2t (n:Nat)(p0:Z0)(p1:(List Q4))(p2:Q1):Option (Q5×Z0):=
  ((Q4j n p0 p1 p2).bind fun r1=>
  ((Q14 n [] p1 p2 r1.1).bind fun r2=>
  ((forL (fun k274 x275 (s268:Z0×Int×Int×Int)=>
  (((if (ieq x275.typ.data (-1))=true then
  ((Z4 s268.1 2).bind fun r314=>
  (if (ieq r314.1 0)=true then
  ((Z4 r314.2 2).bind fun r316=>
  ((Z4 r316.2 10).bind fun r317=>
  some (Ctl.brk (r317.2,wadd .i64 1 r316.1,x275.var,r317.1))))
  else
  some (Ctl.brk (r314.2,s268.2.1,s268.2.2.1,s268.2.2.2))))
  else
  some (Ctl.brk (s268.1,s268.2.1,s268.2.2.1,s268.2.2.2)))).bind fun (o299:Ctl _ (Z0×Int×Int×Int))=>match o299 with
  | .ret r=>some r
  | .go _=>none
  | .brk s298=>
  some (Ctl.go (s298.1,s298.2.1,s298.2.2.1,s298.2.2.2)))) 0 r2 (r1.2,0,0,0)).bind fun (o267:Ctl _ (Z0×Int×Int×Int))=>match o267 with
  | .ret r=>some r
  | .go _=>none
  | .brk s278=>
  some (((Q5.mk r1.1 (Q34.mk s278.2.1 s278.2.2.1 s278.2.2.2)),s278.1)))))
def Q4i (n:Nat)(p0:Z0)(p1:(List Q4))(p2:Q1):Option ((List Q5)×Z0):=
  ((W2 p0 [3,2,4,5,1,0]).bind fun r42=>
  ((whileL (fun (s63:Z0×(List Q5)×Int)=>
  (if (ilt 0 s63.2.2)=true then
  ((Q2t n s63.1 p1 p2).bind fun r79=>
  ((app s63.2.1 [r79.1]).bind fun x80=>
  some (Ctl.go (r79.2,x80,wsub .i64 s63.2.2 1))))
  else
  some (Ctl.brk (s63.1,s63.2.1,s63.2.2)))) n (r42.2,[],r42.1)).bind fun (o62:Ctl _ (Z0×(List Q5)×Int))=>match o62 with
  | .ret r=>some r
  | .go _=>none
  | .brk s73=>
  some ((s73.2.1,s73.1))))
def Q9n (p0:Q1):Option (Int):=
  some (wadd .i64 (wmul .i64 p0.data 4) p0.index)
def Q07 (p0:(List Int))(p1:Q1):Option (Int):=
  (if (ieq p1.data (-1))=true then
  some (1)
  else
  ((Q9n p1).bind fun r3=>
  ((idx p0 r3).bind fun x4=>
  some (x4))))
def Q3g (p0:(List Q4))(p1:(List Int))(p2:Q1)(p3:Int):Option (Int):=
  ((J4 p0 p2 p3).bind fun r1=>
  ((forL (fun k111 x112 (s105:Int)=>
  ((((Q07 p1 x112).bind fun r125=>
  (if (ieq r125 0)=true then
  some (Ctl.ret (Ctl.ret (0)))
  else
  (if (ilt s105 r125)=true then
  some (Ctl.brk r125)
  else
  some (Ctl.brk s105))))).bind fun (o122:Ctl _ (Int))=>match o122 with
  | .ret r=>some r
  | .go _=>none
  | .brk s121=>
  some (Ctl.go s121))) 0 r1 0).bind fun (o104:Ctl _ (Int))=>match o104 with
  | .ret r=>some r
  | .go _=>none
  | .brk s115=>
  some (wadd .i64 s115 1)))
def Q12 (n:Nat)(p0:(List Q4)):Option ((List Int)):=
  ((mkS (wmul .i64 (lenZ p0.length) 4) 0).bind fun x1=>
  ((whileL (fun (s8509:(List Int)×Int)=>
  (if (ile s8509.2 (lenZ s8509.1.length))=true then
  ((whileL (fun (s9929:(List Int)×Int)=>
  (if (ilt s9929.2 (lenZ s9929.1.length))=true then
  ((Q08 p0 (Q1.mk (wquo .i64 s9929.2 4) (wrem s9929.2 4))).bind fun r10080=>
  ((forL (fun k10174 x10175 (s10168:(List Int))=>
  ((((Q3g p0 s10168 (Q1.mk (wquo .i64 s9929.2 4) (wrem s9929.2 4)) x10175).bind fun r10200=>
  (if (ilt 0 r10200)=true then
  ((idx s10168 s9929.2).bind fun x10211=>
  (if (ieq x10211 0)=true then
  ((setI s10168 s9929.2 r10200).bind fun x10213=>
  some (Ctl.brk x10213))
  else
  (if (ilt r10200 x10211)=true then
  ((setI s10168 s9929.2 r10200).bind fun x10215=>
  some (Ctl.brk x10215))
  else
  some (Ctl.brk s10168))))
  else
  some (Ctl.brk s10168)))).bind fun (o10197:Ctl _ ((List Int)))=>match o10197 with
  | .ret r=>some r
  | .go _=>none
  | .brk s10196=>
  some (Ctl.go s10196))) 0 r10080 s9929.1).bind fun (o10167:Ctl _ ((List Int)))=>match o10167 with
  | .ret r=>some r
  | .go _=>none
  | .brk s10178=>
  some (Ctl.go (s10178,wadd .i64 s9929.2 1))))
  else
  some (Ctl.brk (s9929.1,s9929.2)))) n (s8509.1,0)).bind fun (o9928:Ctl _ ((List Int)×Int))=>match o9928 with
  | .ret r=>some r
  | .go _=>none
  | .brk s9939=>
  some (Ctl.go (s9939.1,wadd .i64 s8509.2 1)))
  else
  some (Ctl.brk (s8509.1,s8509.2)))) n (x1,0)).bind fun (o8508:Ctl _ ((List Int)×Int))=>match o8508 with
  | .ret r=>some r
  | .go _=>none
  | .brk s8519=>
  some (s8519.1)))
def Q9p (p0:(List ByteArray))(p1:ByteArray):Option (Int):=
  (if (seq2 p1 (ByteArray.mk #[73]))=true then
  some ((-1))
  else
  ((forL (fun k50 x51 (s44:Unit)=>
  (if (seq2 x51 p1)=true then
  some (Ctl.ret ((k50:Int)))
  else
  some (Ctl.go ()))) 0 p0 ()).bind fun (o43:Ctl _ (Unit))=>match o43 with
  | .ret r=>some r
  | .go _=>none
  | .brk s54=>
  some ((-2))))
def Q6m (p0:(List ByteArray))(p1:ByteArray):Option (Q1):=
  (if (seq2 p1 (ByteArray.mk #[]))=true then
  some ((Q1.mk (-2) 0))
  else
  ((ssub p1 0 1).bind fun x3=>
  ((Q9p p0 x3).bind fun r4=>
  ((((ssub p1 1 (p1.size:Int)).bind fun x22=>
  (if (seq2 x22 (ByteArray.mk #[42]))=true then
  some (Ctl.brk (-1))
  else
  (if (ieq (lenZ p1.size) 2)=true then
  ((sidx p1 1).bind fun x32=>
  (if (ile 48 x32)=true then
  (if (ile x32 57)=true then
  some (Ctl.brk (wcv .i64 (wsub .u8 x32 48)))
  else
  some (Ctl.brk 0))
  else
  some (Ctl.brk 0)))
  else
  some (Ctl.brk 0))))).bind fun (o19:Ctl _ (Int))=>match o19 with
  | .ret r=>some r
  | .go _=>none
  | .brk s18=>
  some ((Q1.mk r4 s18))))))
def Q3h (n:Nat)(p0:ByteArray)(p1:Int):Option ((List ByteArray)):=
  ((whileL (fun (s210:(List ByteArray)×Int×Int)=>
  (if (ile s210.2.2 (lenZ p0.size))=true then
  (((if (ieq s210.2.2 (lenZ p0.size))=true then
  ((ssub p0 s210.2.1 s210.2.2).bind fun x253=>
  ((app s210.1 [x253]).bind fun x254=>
  some (Ctl.brk (x254,wadd .i64 s210.2.2 1))))
  else
  ((sidx p0 s210.2.2).bind fun x255=>
  (if (ieq x255 p1)=true then
  ((ssub p0 s210.2.1 s210.2.2).bind fun x257=>
  ((app s210.1 [x257]).bind fun x258=>
  some (Ctl.brk (x258,wadd .i64 s210.2.2 1))))
  else
  some (Ctl.brk (s210.1,s210.2.1)))))).bind fun (o240:Ctl _ ((List ByteArray)×Int))=>match o240 with
  | .ret r=>some r
  | .go _=>none
  | .brk s239=>
  some (Ctl.go (s239.1,s239.2,wadd .i64 s210.2.2 1)))
  else
  some (Ctl.brk (s210.1,s210.2.1,s210.2.2)))) n ([],0,0)).bind fun (o209:Ctl _ ((List ByteArray)×Int×Int))=>match o209 with
  | .ret r=>some r
  | .go _=>none
  | .brk s220=>
  some (s220.1))
def Q6n (n:Nat)(p0:(List ByteArray))(p1:ByteArray):Option (Q7e):=
  (((if (ilt 2 (lenZ p1.size))=true then
  ((sidx p1 (wsub .i64 (lenZ p1.size) 2)).bind fun x25=>
  (if (ieq x25 58)=true then
  ((sidx p1 (wsub .i64 (lenZ p1.size) 1)).bind fun x27=>
  ((ssub p1 0 (wsub .i64 (lenZ p1.size) 2)).bind fun x28=>
  some (Ctl.brk (x28,wsub .i64 (wcv .i64 x27) 48))))
  else
  some (Ctl.brk (p1,0))))
  else
  some (Ctl.brk (p1,0)))).bind fun (o14:Ctl _ (ByteArray×Int))=>match o14 with
  | .ret r=>some r
  | .go _=>none
  | .brk s13=>
  ((Q3h n s13.1 40).bind fun r29=>
  ((idx r29 0).bind fun x30=>
  (if (ilt (lenZ r29.length) 2)=true then
  some ((Q7e.mk x30 [] s13.2))
  else
  ((idx r29 1).bind fun x45=>
  (if (ieq (lenZ x45.size) 0)=true then
  some ((Q7e.mk x30 [] s13.2))
  else
  ((ssub x45 0 (wsub .i64 (lenZ x45.size) 1)).bind fun x47=>
  ((Q3h n x47 44).bind fun r48=>
  ((forL (fun k152 x153 (s146:(List Q1))=>
  (if (ile (k152:Int) 3)=true then
  ((Q6m p0 x153).bind fun r162=>
  ((app s146 [r162]).bind fun x163=>
  some (Ctl.go x163)))
  else
  some (Ctl.brk s146))) 0 r48 []).bind fun (o145:Ctl _ ((List Q1)))=>match o145 with
  | .ret r=>some r
  | .go _=>none
  | .brk s156=>
  some ((Q7e.mk x30 s156 s13.2)))))))))))
def Q8k (p0:Int):Option (Bool):=
  (if (ile 65 p0)=true then
  some (ile p0 90)
  else
  some (false))
def Q9q (p0:ByteArray):Option (Bool):=
  (if (ieq (lenZ p0.size) 1)=true then
  ((sidx p0 0).bind fun x8=>
  ((Q8k x8).bind fun r9=>
  (if r9=true then
  some (!seq2 p0 (ByteArray.mk #[73]))
  else
  some (false))))
  else
  some (false))
def Q7h (n:Nat)(p0:ByteArray):Option (Bool):=
  (if (ieq (lenZ p0.size) 0)=true then
  some (false)
  else
  (if (ilt 5 (lenZ p0.size))=true then
  some (false)
  else
  ((sidx p0 0).bind fun x31=>
  ((Q8k x31).bind fun r32=>
  (if (!r32)=true then
  some (false)
  else
  ((whileL (fun (s139:Int)=>
  (if (ilt s139 (lenZ p0.size))=true then
  ((sidx p0 s139).bind fun x165=>
  (if (ilt x165 97)=true then
  some (Ctl.ret (false))
  else
  (if (ilt 122 x165)=true then
  some (Ctl.ret (false))
  else
  some (Ctl.go (wadd .i64 s139 1)))))
  else
  some (Ctl.brk s139))) n 1).bind fun (o138:Ctl _ (Int))=>match o138 with
  | .ret r=>some r
  | .go _=>none
  | .brk s149=>
  some (true)))))))
def Q8l (p0:Int)(p1:Q1):Option (Bool):=
  (if (ieq p1.data (-1))=true then
  some (ieq p1.index 0)
  else
  (if (ile 0 p1.data)=true then
  (if (ilt p1.data p0)=true then
  (if (ile (-1) p1.index)=true then
  some (ile p1.index 3)
  else
  some (false))
  else
  some (false))
  else
  some (false)))
def Q9r (n:Nat)(p0:Int)(p1:Q7e):Option (Bool):=
  ((Q7h n p1.name).bind fun r44=>
  (if (!r44)=true then
  some (false)
  else
  (if (ilt 3 (lenZ p1.args.length))=true then
  some (false)
  else
  (if (ilt p1.index 0)=true then
  some (false)
  else
  (if (ilt 3 p1.index)=true then
  some (false)
  else
  ((forL (fun k119 x120 (s113:Unit)=>
  ((Q8l p0 x120).bind fun r127=>
  (if (!r127)=true then
  some (Ctl.ret (false))
  else
  some (Ctl.go ())))) 0 p1.args ()).bind fun (o112:Ctl _ (Unit))=>match o112 with
  | .ret r=>some r
  | .go _=>none
  | .brk s123=>
  some (true)))))))
def Q8u (n:Nat)(p0:(List Q4))(p1:Int)(p2:Int):Option (Bool):=
  ((whileL (fun (s3156:Int)=>
  (if (ile s3156 p1)=true then
  (((if (ilt s3156 p1)=true then
  ((idx p0 s3156).bind fun x3505=>
  ((idx p0 p1).bind fun x3506=>
  (if (seq2 x3505.name x3506.name)=true then
  some (Ctl.ret (Ctl.ret (true)))
  else
  some (Ctl.brk ()))))
  else
  some (Ctl.brk ()))).bind fun (o3494:Ctl _ (Unit))=>match o3494 with
  | .ret r=>some r
  | .go _=>none
  | .brk s3493=>
  ((idx p0 s3156).bind fun x3637=>
  ((forL (fun k3750 x3751 (s3744:Unit)=>
  (((if (ilt s3156 p1)=true then
  some (Ctl.brk ())
  else
  (if (ilt (k3750:Int) p2)=true then
  some (Ctl.brk ())
  else
  some (Ctl.ret (Ctl.brk ()))))).bind fun (o3761:Ctl _ (Unit))=>match o3761 with
  | .ret r=>some r
  | .go _=>none
  | .brk s3760=>
  ((((idx p0 p1).bind fun x3791=>
  (if (ilt p2 (lenZ x3791.ctors.length))=true then
  ((idx x3791.ctors p2).bind fun x3793=>
  (if (seq2 x3751.name x3793.name)=true then
  some (Ctl.ret (Ctl.ret (Ctl.ret (true))))
  else
  some (Ctl.brk ())))
  else
  some (Ctl.brk ())))).bind fun (o3781:Ctl _ (Unit))=>match o3781 with
  | .ret r=>some r
  | .go _=>none
  | .brk s3780=>
  some (Ctl.go ())))) 0 x3637.ctors ()).bind fun (o3743:Ctl _ (Unit))=>match o3743 with
  | .ret r=>some r
  | .go _=>none
  | .brk s3754=>
  some (Ctl.go (wadd .i64 s3156 1)))))
  else
  some (Ctl.brk s3156))) n 0).bind fun (o3155:Ctl _ (Int))=>match o3155 with
  | .ret r=>some r
  | .go _=>none
  | .brk s3166=>
  some (false))
def Q2o (n:Nat)(p0:(List Q4)):Option (Bool):=
  (if (ilt 4 (lenZ p0.length))=true then
  some (false)
  else
  ((forL (fun k1970 x1971 (s1964:Unit)=>
  ((Q9q x1971.name).bind fun r2197=>
  (if (!r2197)=true then
  some (Ctl.ret (false))
  else
  (if (ieq (lenZ x1971.ctors.length) 0)=true then
  some (Ctl.ret (false))
  else
  (if (ilt 4 (lenZ x1971.ctors.length))=true then
  some (Ctl.ret (false))
  else
  ((forL (fun k2307 x2308 (s2301:Unit)=>
  ((Q9r n (lenZ p0.length) x2308).bind fun r2345=>
  (if (!r2345)=true then
  some (Ctl.ret (Ctl.ret (false)))
  else
  ((Q8u n p0 (k1970:Int) (k2307:Int)).bind fun r2348=>
  (if r2348=true then
  some (Ctl.ret (Ctl.ret (false)))
  else
  some (Ctl.go ())))))) 0 x1971.ctors ()).bind fun (o2300:Ctl _ (Unit))=>match o2300 with
  | .ret r=>some r
  | .go _=>none
  | .brk s2311=>
  some (Ctl.go ()))))))) 0 p0 ()).bind fun (o1963:Ctl _ (Unit))=>match o1963 with
  | .ret r=>some r
  | .go _=>none
  | .brk s1974=>
  some (true)))
def Q6o:Nat→Int→Option (ByteArray)
 | 0,_=>none
 | n+1,p0=>
  (if (ilt p0 (-9223372036854775807))=true then
  some ((ByteArray.mk #[45,57,50,50,51,51,55,50,48,51,54,56,53,52,55,55,53,56,48,56]))
  else
  (if (ilt p0 0)=true then
  ((Q6o n (wneg .i64 p0)).bind fun r8=>
  ((scat (ByteArray.mk #[45]) r8).bind fun x9=>
  some (x9)))
  else
  ((whileL (fun (s20:Int×ByteArray)=>
  (if (ilt 9 s20.1)=true then
  ((scat (bstr [wcv .u8 (wadd .i64 48 (wrem s20.1 10))]) s20.2).bind fun x33=>
  some (Ctl.go (wquo .i64 s20.1 10,x33)))
  else
  some (Ctl.brk (s20.1,s20.2)))) n (p0,(ByteArray.mk #[]))).bind fun (o19:Ctl _ (Int×ByteArray))=>match o19 with
  | .ret r=>some r
  | .go _=>none
  | .brk s30=>
  ((scat (bstr [wcv .u8 (wadd .i64 48 s30.1)]) s30.2).bind fun x34=>
  some (x34)))))
def Q8v (n:Nat)(p0:Int):Option (ByteArray):=
  (if (ieq p0 0)=true then
  some ((ByteArray.mk #[]))
  else
  (if (ieq p0 (-1))=true then
  some ((ByteArray.mk #[42]))
  else
  ((Q6o n p0).bind fun r5=>
  some (r5))))
def Q9l (n:Nat)(p0:(List Q4))(p1:Q1):Option (ByteArray):=
  (if (ieq p1.data (-1))=true then
  some ((ByteArray.mk #[73]))
  else
  ((idx p0 p1.data).bind fun x3=>
  ((Q8v n p1.index).bind fun r4=>
  ((scat x3.name r4).bind fun x5=>
  some (x5)))))
def Q6x (n:Nat)(p0:(List Q4))(p1:Q7e):Option (ByteArray):=
  ((forL (fun k170 x171 (s164:ByteArray)=>
  (((if (ieq (k170:Int) 0)=true then
  ((scat s164 (ByteArray.mk #[40])).bind fun x196=>
  some (Ctl.brk x196))
  else
  ((scat s164 (ByteArray.mk #[44])).bind fun x197=>
  some (Ctl.brk x197)))).bind fun (o192:Ctl _ (ByteArray))=>match o192 with
  | .ret r=>some r
  | .go _=>none
  | .brk s191=>
  ((Q9l n p0 x171).bind fun r198=>
  ((scat s191 r198).bind fun x199=>
  some (Ctl.go x199))))) 0 p1.args p1.name).bind fun (o163:Ctl _ (ByteArray))=>match o163 with
  | .ret r=>some r
  | .go _=>none
  | .brk s174=>
  (((if (ilt 0 (lenZ p1.args.length))=true then
  ((scat s174 (ByteArray.mk #[41])).bind fun x208=>
  some (Ctl.brk x208))
  else
  some (Ctl.brk s174))).bind fun (o204:Ctl _ (ByteArray))=>match o204 with
  | .ret r=>some r
  | .go _=>none
  | .brk s203=>
  (((if (ilt 0 p1.index)=true then
  ((scat s203 (ByteArray.mk #[58])).bind fun x219=>
  ((Q6o n p1.index).bind fun r220=>
  ((scat x219 r220).bind fun x221=>
  some (Ctl.brk x221))))
  else
  some (Ctl.brk s203))).bind fun (o215:Ctl _ (ByteArray))=>match o215 with
  | .ret r=>some r
  | .go _=>none
  | .brk s214=>
  some (s214))))
def Q9m (n:Nat)(p0:(List Q4)):Option (ByteArray):=
  ((forL (fun k1020 x1021 (s1014:ByteArray)=>
  (((if (ilt 0 (k1020:Int))=true then
  ((scat s1014 (ByteArray.mk #[59])).bind fun x1130=>
  some (Ctl.brk x1130))
  else
  some (Ctl.brk s1014))).bind fun (o1126:Ctl _ (ByteArray))=>match o1126 with
  | .ret r=>some r
  | .go _=>none
  | .brk s1125=>
  ((scat s1125 x1021.name).bind fun x1131=>
  ((scat x1131 (ByteArray.mk #[61])).bind fun x1132=>
  ((forL (fun k1194 x1195 (s1188:ByteArray)=>
  (((if (ilt 0 (k1194:Int))=true then
  ((scat s1188 (ByteArray.mk #[124])).bind fun x1217=>
  some (Ctl.brk x1217))
  else
  some (Ctl.brk s1188))).bind fun (o1213:Ctl _ (ByteArray))=>match o1213 with
  | .ret r=>some r
  | .go _=>none
  | .brk s1212=>
  ((Q6x n p0 x1195).bind fun r1218=>
  ((scat s1212 r1218).bind fun x1219=>
  some (Ctl.go x1219))))) 0 x1021.ctors x1132).bind fun (o1187:Ctl _ (ByteArray))=>match o1187 with
  | .ret r=>some r
  | .go _=>none
  | .brk s1198=>
  some (Ctl.go s1198)))))) 0 p0 (ByteArray.mk #[])).bind fun (o1013:Ctl _ (ByteArray))=>match o1013 with
  | .ret r=>some r
  | .go _=>none
  | .brk s1024=>
  some (s1024))
def Q5q (n:Nat)(p0:ByteArray):Option ((List Q4)×Bool):=
  ((Q3h n p0 59).bind fun r1=>
  ((forL (fun k167 x168 (s161:(List ByteArray))=>
  (if (ile (k167:Int) 4)=true then
  (if (!seq2 p0 (ByteArray.mk #[]))=true then
  ((Q3h n x168 61).bind fun r188=>
  (if (!ieq (lenZ r188.length) 2)=true then
  some (Ctl.ret (([],false)))
  else
  ((idx r188 0).bind fun x191=>
  ((app s161 [x191]).bind fun x192=>
  some (Ctl.go x192)))))
  else
  some (Ctl.brk s161))
  else
  some (Ctl.brk s161))) 0 r1 []).bind fun (o160:Ctl _ ((List ByteArray)))=>match o160 with
  | .ret r=>some r
  | .go _=>none
  | .brk s171=>
  ((forL (fun k1463 x1464 (s1457:(List Q4))=>
  ((idx r1 (k1463:Int)).bind fun x1591=>
  ((Q3h n x1591 61).bind fun r1592=>
  ((idx r1592 1).bind fun x1593=>
  ((Q3h n x1593 124).bind fun r1594=>
  ((forL (fun k1698 x1699 (s1692:(List Q7e))=>
  (if (ile (k1698:Int) 4)=true then
  ((Q6n n s171 x1699).bind fun r1708=>
  ((app s1692 [r1708]).bind fun x1709=>
  some (Ctl.go x1709)))
  else
  some (Ctl.brk s1692))) 0 r1594 []).bind fun (o1691:Ctl _ ((List Q7e)))=>match o1691 with
  | .ret r=>some r
  | .go _=>none
  | .brk s1702=>
  ((app s1457 [(Q4.mk x1464 s1702)]).bind fun x1711=>
  some (Ctl.go (s1457++[(Q4.mk x1464 s1702)]))))))))) 0 s171 []).bind fun (o1456:Ctl _ ((List Q4)))=>match o1456 with
  | .ret r=>some r
  | .go _=>none
  | .brk s1467=>
  ((Q2o n s1467).bind fun r1747=>
  (if (!r1747)=true then
  some (([],false))
  else
  ((Q9m n s1467).bind fun r1750=>
  (if (!seq2 r1750 p0)=true then
  some (([],false))
  else
  some ((s1467,true)))))))))
def Q51  : Option ((List ByteArray)):=
  some ([(ByteArray.mk #[76,61,78,105,108,124,67,111,110,115,40,73,44,76,41]),(ByteArray.mk #[66,61,84,114,117,124,70,108,115,59,84,61,76,101,97,102,124,78,111,100,101,40,84,44,66,44,84,41]),(ByteArray.mk #[69,61,78,117,109,40,73,41,58,49,124,66,111,108,40,66,41,58,50,124,65,100,100,40,69,49,44,69,49,41,58,49,124,73,102,40,69,50,44,69,42,44,69,42,41,59,66,61,84,114,117,124,70,108,115]),(ByteArray.mk #[79,61,78,111,110,124,83,111,109,40,73,41,59,80,61,80,97,105,114,40,79,44,79,41]),(ByteArray.mk #[86,61,69,110,100,58,49,124,83,111,109,101,40,73,44,86,49,41,58,50,124,84,119,111,40,86,42,41]),(ByteArray.mk #[78,61,78,101,118,101,114,40,78,41,59,66,61,84,114,117,124,70,108,115,124,77,97,121,40,78,41]),(ByteArray.mk #[83,61,82,101,100,124,71,114,101,101,110,124,66,108,117,101,124,77,105,120,40,83,44,83,41]),(ByteArray.mk #[])])
def Q63 (n:Nat)(p0:Z0):Option ((List Q4)×Z0):=
  ((Q51).bind fun r1=>
  ((Z4 p0 (wsub .i64 (lenZ r1.length) 1)).bind fun r2=>
  ((idx r1 r2.1).bind fun x3=>
  ((Q5q n x3).bind fun r4=>
  some ((r4.1,r2.2))))))
def Q5p:Nat→Z0→(List Q4)→(List Int)→Q1→Int→Option (Q3×Z0)
 | 0,_,_,_,_,_=>none
 | n+1,p0,p1,p2,p3,p4=>
  (if (ieq p3.data (-1))=true then
  ((Z4 p0 10).bind fun r5=>
  some (((Q3.mk (-1) r5.1 []),r5.2)))
  else
  ((Q08 p1 p3).bind fun r7=>
  ((forL (fun k267 x268 (s261:(List Int))=>
  ((((Q3g p1 p2 p3 x268).bind fun r296=>
  (if (ilt 0 r296)=true then
  (if (ile r296 p4)=true then
  ((app s261 [x268]).bind fun x310=>
  some (Ctl.brk x310))
  else
  ((Q07 p2 p3).bind fun r311=>
  (if (ieq r296 r311)=true then
  ((app s261 [x268]).bind fun x313=>
  some (Ctl.brk x313))
  else
  some (Ctl.brk s261))))
  else
  some (Ctl.brk s261)))).bind fun (o293:Ctl _ ((List Int)))=>match o293 with
  | .ret r=>some r
  | .go _=>none
  | .brk s292=>
  some (Ctl.go s292))) 0 r7 []).bind fun (o260:Ctl _ ((List Int)))=>match o260 with
  | .ret r=>some r
  | .go _=>none
  | .brk s271=>
  ((Z4 p0 (lenZ s271.length)).bind fun r316=>
  ((idx s271 r316.1).bind fun x317=>
  ((J4 p1 p3 x317).bind fun r318=>
  ((forL (fun k390 x391 (s384:Z0×(List Q3))=>
  ((Q5p n s384.1 p1 p2 x391 (wsub .i64 p4 1)).bind fun r398=>
  ((app s384.2 [r398.1]).bind fun x399=>
  some (Ctl.go (r398.2,x399))))) 0 r318 (r316.2,[])).bind fun (o383:Ctl _ (Z0×(List Q3)))=>match o383 with
  | .ret r=>some r
  | .go _=>none
  | .brk s394=>
  some (((Q3.mk x317 0 s394.2),s394.1)))))))))
def Q62 (n:Nat)(p0:Z0):Option ((List Q4)×Q1×Q3×Z0):=
  ((Q63 n p0).bind fun r1=>
  ((Q12 n r1.1).bind fun r2=>
  ((Z4 r1.2 (lenZ r1.1.length)).bind fun r3=>
  ((W2 r3.2 [0,0,1,2]).bind fun r4=>
  ((((Q07 r2 (Q1.mk r3.1 r4.1)).bind fun r12=>
  (if (ieq r12 0)=true then
  some (Ctl.brk ((-1),0))
  else
  some (Ctl.brk (r3.1,r4.1))))).bind fun (o9:Ctl _ (Int×Int))=>match o9 with
  | .ret r=>some r
  | .go _=>none
  | .brk s8=>
  ((W2 r4.2 [3,2,4,1]).bind fun r15=>
  ((Q5p n r15.2 r1.1 r2 (Q1.mk s8.1 s8.2) r15.1).bind fun r16=>
  some ((r1.1,(Q1.mk s8.1 s8.2),r16.1,r16.2)))))))))
def Q3q (n:Nat)(p0:Z0):Option ((List Q4)×Q1×(List Q5)×Q3×Z0):=
  ((Q62 n p0).bind fun r1=>
  ((Q4i n r1.2.2.2 r1.1 r1.2.1).bind fun r2=>
  some ((r1.1,r1.2.1,r2.1,r1.2.2.1,r2.2))))
def Q3t (p0:(List Int)):Option (Z0):=
  (((if (ilt 2000 (lenZ p0.length))=true then
  ((Q7x p0 2000).bind fun x8=>
  some (Ctl.brk x8))
  else
  some (Ctl.brk p0))).bind fun (o4:Ctl _ ((List Int)))=>match o4 with
  | .ret r=>some r
  | .go _=>none
  | .brk s3=>
  some ((Z0.mk s3 0)))
def Q6y (p0:Int):Option (Int):=
  (((if (ile 4294967296 p0)=true then
  some (Ctl.brk (wshr .u64 p0 32,32))
  else
  some (Ctl.brk (p0,0)))).bind fun (o3:Ctl _ (Int×Int))=>match o3 with
  | .ret r=>some r
  | .go _=>none
  | .brk s2=>
  (((if (ile 65536 s2.1)=true then
  some (Ctl.brk (wshr .u64 s2.1 16,wadd .i64 s2.2 16))
  else
  some (Ctl.brk (s2.1,s2.2)))).bind fun (o9:Ctl _ (Int×Int))=>match o9 with
  | .ret r=>some r
  | .go _=>none
  | .brk s8=>
  (((if (ile 256 s8.1)=true then
  some (Ctl.brk (wshr .u64 s8.1 8,wadd .i64 s8.2 8))
  else
  some (Ctl.brk (s8.1,s8.2)))).bind fun (o15:Ctl _ (Int×Int))=>match o15 with
  | .ret r=>some r
  | .go _=>none
  | .brk s14=>
  ((sidx (ByteArray.mk #[0,1,2,2,3,3,3,3,4,4,4,4,4,4,4,4,5,5,5,5,5,5,5,5,5,5,5,5,5,5,5,5,6,6,6,6,6,6,6,6,6,6,6,6,6,6,6,6,6,6,6,6,6,6,6,6,6,6,6,6,6,6,6,6,7,7,7,7,7,7,7,7,7,7,7,7,7,7,7,7,7,7,7,7,7,7,7,7,7,7,7,7,7,7,7,7,7,7,7,7,7,7,7,7,7,7,7,7,7,7,7,7,7,7,7,7,7,7,7,7,7,7,7,7,7,7,7,7,8,8,8,8,8,8,8,8,8,8,8,8,8,8,8,8,8,8,8,8,8,8,8,8,8,8,8,8,8,8,8,8,8,8,8,8,8,8,8,8,8,8,8,8,8,8,8,8,8,8,8,8,8,8,8,8,8,8,8,8,8,8,8,8,8,8,8,8,8,8,8,8,8,8,8,8,8,8,8,8,8,8,8,8,8,8,8,8,8,8,8,8,8,8,8,8,8,8,8,8,8,8,8,8,8,8,8,8,8,8,8,8,8,8,8,8,8,8,8,8,8,8,8,8,8,8,8,8]) (wcv .u8 s14.1)).bind fun x19=>
  some (wadd .i64 s14.2 (wcv .i64 x19))))))
def Q6p (p0:Int):Option (Int):=
  ((Q6y p0).bind fun r1=>
  some (r1))
def Q5g (p0:Int):Option (Bool):=
  some (!ieq p0 p0)
def Q49 (p0:Int)(p1:Int):Option (Int):=
  ((Q5g p0).bind fun r1=>
  ((Q5g p1).bind fun r2=>
  (if r1=true then
  (if r2=true then
  some (0)
  else
  some ((-1)))
  else
  (if r2=true then
  some (1)
  else
  (if (ilt p0 p1)=true then
  some ((-1))
  else
  (if (ilt p1 p0)=true then
  some (1)
  else
  some (0)))))))
def V2 (p0:Int)(p1:Int)(p2:Int):Option (Bool):=
  (if (ile p1 p0)=true then
  some (ile p0 p2)
  else
  some (false))
def Q7i (n:Nat)(p0:ByteArray):Option (Bool):=
  ((V2 (lenZ p0.size) 1 5).bind fun r39=>
  (if (!r39)=true then
  some (false)
  else
  ((sidx p0 0).bind fun x42=>
  (if (ilt x42 65)=true then
  some (false)
  else
  (if (ilt 90 x42)=true then
  some (false)
  else
  ((whileL (fun (s151:Int)=>
  (if (ilt s151 (lenZ p0.size))=true then
  ((sidx p0 s151).bind fun x177=>
  (if (ilt x177 97)=true then
  some (Ctl.ret (false))
  else
  (if (ilt 122 x177)=true then
  some (Ctl.ret (false))
  else
  some (Ctl.go (wadd .i64 s151 1)))))
  else
  some (Ctl.brk s151))) n 1).bind fun (o150:Ctl _ (Int))=>match o150 with
  | .ret r=>some r
  | .go _=>none
  | .brk s161=>
  some (true)))))))
def Z0r (p0:(List Q4))(p1:Q1):Option (Bool):=
  (if (Q7j [ieq p1.data (-1),ieq p1.index 0])=true then
  some (true)
  else
  ((V2 p1.data 0 (wsub .i64 (lenZ p0.length) 1)).bind fun r9=>
  (if r9=true then
  ((V2 p1.index (-1) 3).bind fun r11=>
  some (r11))
  else
  some (false))))
def Q88 (p0:Q1)(q0:(List Q4)):Option (Bool):=
  ((Z0r q0 p0).bind fun r1=>
  some ((!r1)))
def Q4n (p0:(List Q1))(p1:(Q1→Option Bool)):Option (Int):=
  ((forL (fun k68 x69 (s62:Unit)=>
  ((p1 x69).bind fun r76=>
  (if r76=true then
  some (Ctl.ret ((k68:Int)))
  else
  some (Ctl.go ())))) 0 p0 ()).bind fun (o61:Ctl _ (Unit))=>match o61 with
  | .ret r=>some r
  | .go _=>none
  | .brk s72=>
  some ((-1)))
def J9 (p0:(List Q1))(p1:(Q1→Option Bool)):Option (Bool):=
  ((Q4n p0 p1).bind fun r1=>
  some (ile 0 r1))
def Q9s (n:Nat)(p0:(List Q4))(p1:Q7e):Option (Bool):=
  ((Q7i n p1.name).bind fun r14=>
  (if r14=true then
  (if (ile (lenZ p1.args.length) 3)=true then
  ((V2 p1.index 0 3).bind fun r17=>
  (if r17=true then
  ((J9 p1.args (fun a0=>Q88 a0 p0)).bind fun r19=>
  some ((!r19)))
  else
  some (false)))
  else
  some (false))
  else
  some (false)))
def Q47 (n:Nat)(p0:(List Q4)):Option (Bool):=
  (if (ilt 4 (lenZ p0.length))=true then
  some (false)
  else
  ((forL (fun k2464 x2465 (s2458:(List (ByteArray×Bool))×(List (ByteArray×Bool)))=>
  (if (!ieq (lenZ x2465.name.size) 1)=true then
  some (Ctl.ret (false))
  else
  ((sidx x2465.name 0).bind fun x2755=>
  (if (ilt x2755 65)=true then
  some (Ctl.ret (false))
  else
  (if (ilt 90 x2755)=true then
  some (Ctl.ret (false))
  else
  (if (seq2 x2465.name (ByteArray.mk #[73]))=true then
  some (Ctl.ret (false))
  else
  (if (mget s2458.2 x2465.name false)=true then
  some (Ctl.ret (false))
  else
  ((V2 (lenZ x2465.ctors.length) 1 4).bind fun r2760=>
  (if (!r2760)=true then
  some (Ctl.ret (false))
  else
  ((forL (fun k2891 x2892 (s2885:(List (ByteArray×Bool)))=>
  ((Q9s n p0 x2892).bind fun r2947=>
  (if (!r2947)=true then
  some (Ctl.ret (Ctl.ret (false)))
  else
  (if (mget s2885 x2892.name false)=true then
  some (Ctl.ret (Ctl.ret (false)))
  else
  some (Ctl.go (mset s2885 x2892.name true)))))) 0 x2465.ctors s2458.1).bind fun (o2884:Ctl _ ((List (ByteArray×Bool))))=>match o2884 with
  | .ret r=>some r
  | .go _=>none
  | .brk s2895=>
  some (Ctl.go (s2895,mset s2458.2 x2465.name true)))))))))))) 0 p0 ([],[])).bind fun (o2457:Ctl _ ((List (ByteArray×Bool))×(List (ByteArray×Bool))))=>match o2457 with
  | .ret r=>some r
  | .go _=>none
  | .brk s2468=>
  some (true)))
def Q6q (p0:(List Q4))(p1:Q1):Option (Bool):=
  (if (Q7j [ieq p1.data (-1),ieq p1.index 0])=true then
  some (true)
  else
  ((V2 p1.data 0 (wsub .i64 (lenZ p0.length) 1)).bind fun r9=>
  (if r9=true then
  ((V2 p1.index 0 3).bind fun r11=>
  some (r11))
  else
  some (false))))
def Q1s (n:Nat)(p0:(List Q4))(p1:Q1):Option (Bool):=
  ((Q47 n p0).bind fun r7=>
  (if r7=true then
  ((Q6q p0 p1).bind fun r9=>
  some (r9))
  else
  some (false)))
def Y9 (p0:(List Q4))(p1:Q1)(p2:Int):Option ((List Q1)):=
  ((idx p0 p1.data).bind fun x1=>
  ((idx x1.ctors p2).bind fun x2=>
  (((if (ieq x2.index 0)=true then
  some (Ctl.brk p1.index)
  else
  some (Ctl.brk x2.index))).bind fun (o5:Ctl _ (Int))=>match o5 with
  | .ret r=>some r
  | .go _=>none
  | .brk s4=>
  ((forL (fun k118 x119 (s112:(List Q1))=>
  (((if (ieq x119.index (-1))=true then
  some (Ctl.brk s4)
  else
  some (Ctl.brk x119.index))).bind fun (o132:Ctl _ (Int))=>match o132 with
  | .ret r=>some r
  | .go _=>none
  | .brk s131=>
  ((app s112 [(Q1.mk x119.data s131)]).bind fun x136=>
  some (Ctl.go x136)))) 0 x2.args []).bind fun (o111:Ctl _ ((List Q1)))=>match o111 with
  | .ret r=>some r
  | .go _=>none
  | .brk s122=>
  some (s122)))))
def Q3v (p0:Q0)(p1:Bool)(p2:Bool)(p3:Bool)(p4:Int):Option (Bool):=
  (if p1=true then
  (if p2=true then
  (if p3=true then
  some (ieq (lenZ p0.kids.length) p4)
  else
  (if (ieq p0.var 0)=true then
  some (ieq (lenZ p0.kids.length) p4)
  else
  some (false)))
  else
  (if (ieq p0.n 0)=true then
  (if (ieq p0.m 0)=true then
  (if p3=true then
  some (ieq (lenZ p0.kids.length) p4)
  else
  (if (ieq p0.var 0)=true then
  some (ieq (lenZ p0.kids.length) p4)
  else
  some (false)))
  else
  some (false))
  else
  some (false)))
  else
  (if (ieq p0.ctor 0)=true then
  (if p2=true then
  (if p3=true then
  some (ieq (lenZ p0.kids.length) p4)
  else
  (if (ieq p0.var 0)=true then
  some (ieq (lenZ p0.kids.length) p4)
  else
  some (false)))
  else
  (if (ieq p0.n 0)=true then
  (if (ieq p0.m 0)=true then
  (if p3=true then
  some (ieq (lenZ p0.kids.length) p4)
  else
  (if (ieq p0.var 0)=true then
  some (ieq (lenZ p0.kids.length) p4)
  else
  some (false)))
  else
  some (false))
  else
  some (false)))
  else
  some (false)))
def Q6d (p0:Int):Option (Bool):=
  ((V2 p0 0 5).bind fun r1=>
  some (r1))
def Q0n (p0:(List Q4))(p1:Q1):Option ((List Int)):=
  (((if (!ieq p1.data (-1))=true then
  ((idx p0 p1.data).bind fun x126=>
  ((forL (fun k208 x209 (s202:(List Int))=>
  (((if (ieq p1.index 0)=true then
  ((app s202 [(k208:Int)]).bind fun x240=>
  some (Ctl.brk x240))
  else
  (if (ieq x209.index 0)=true then
  ((app s202 [(k208:Int)]).bind fun x242=>
  some (Ctl.brk x242))
  else
  (if (ieq x209.index p1.index)=true then
  ((app s202 [(k208:Int)]).bind fun x244=>
  some (Ctl.brk x244))
  else
  some (Ctl.brk s202))))).bind fun (o228:Ctl _ ((List Int)))=>match o228 with
  | .ret r=>some r
  | .go _=>none
  | .brk s227=>
  some (Ctl.go s227))) 0 x126.ctors []).bind fun (o201:Ctl _ ((List Int)))=>match o201 with
  | .ret r=>some r
  | .go _=>none
  | .brk s212=>
  some (Ctl.brk s212)))
  else
  some (Ctl.brk []))).bind fun (o122:Ctl _ ((List Int)))=>match o122 with
  | .ret r=>some r
  | .go _=>none
  | .brk s121=>
  some (s121))
def Q55 (p0:(List Int))(p1:Int):Option (Int):=
  ((forL (fun k48 x49 (s42:Unit)=>
  (if (ieq p1 x49)=true then
  some (Ctl.ret ((k48:Int)))
  else
  some (Ctl.go ()))) 0 p0 ()).bind fun (o41:Ctl _ (Unit))=>match o41 with
  | .ret r=>some r
  | .go _=>none
  | .brk s52=>
  some ((-1)))
def J6 (p0:(List Int))(p1:Int):Option (Bool):=
  ((Q55 p0 p1).bind fun r1=>
  some (ile 0 r1))
def Q6c (p0:(List Q4))(p1:Q1)(p2:Q0):Option ((List Q1)×Bool):=
  (if (ieq p2.op 1)=true then
  ((Q3v p2 false false false 0).bind fun r68=>
  some (([],r68)))
  else
  (if (ieq p2.op 2)=true then
  ((Q3v p2 false false true 0).bind fun r77=>
  (if r77=true then
  ((Q6d p2.var).bind fun r79=>
  some (([],r79)))
  else
  some (([],false))))
  else
  (if (ieq p2.op 3)=true then
  (if (ieq p1.data (-1))=true then
  ((Q3v p2 false true false 0).bind fun r94=>
  (if r94=true then
  (if (ile 0 p2.n)=true then
  (if (ile p2.n p2.m)=true then
  some (([],ile p2.m 9))
  else
  some (([],false)))
  else
  some (([],false)))
  else
  some (([],false))))
  else
  some (([],false)))
  else
  (if (ieq p2.op 4)=true then
  ((Q0n p0 p1).bind fun r108=>
  ((J6 r108 p2.ctor).bind fun r109=>
  (if (!r109)=true then
  some (([],false))
  else
  ((Y9 p0 p1 p2.ctor).bind fun r111=>
  ((Q3v p2 true false false (lenZ r111.length)).bind fun r112=>
  some ((r111,r112)))))))
  else
  (if (ieq p2.op 5)=true then
  ((Q3v p2 false false false 2).bind fun r118=>
  some (([p1,p1],r118)))
  else
  (if (ieq p2.op 6)=true then
  ((Q3v p2 false false true 1).bind fun r127=>
  (if r127=true then
  ((Q6d p2.var).bind fun r129=>
  some (([p1],r129)))
  else
  some (([p1],false))))
  else
  some (([],false))))))))
def Q35 (p0:(List Q9))(p1:(Q9→Option Bool)):Option (Int):=
  ((forL (fun k68 x69 (s62:Unit)=>
  ((p1 x69).bind fun r76=>
  (if r76=true then
  some (Ctl.ret ((k68:Int)))
  else
  some (Ctl.go ())))) 0 p0 ()).bind fun (o61:Ctl _ (Unit))=>match o61 with
  | .ret r=>some r
  | .go _=>none
  | .brk s72=>
  some ((-1)))
def Q16 (p0:(List Q9))(p1:(Q9→Option Bool)):Option (Bool):=
  ((Q35 p0 p1).bind fun r1=>
  some (ile 0 r1))
def Q31 (p0:(List Q9))(p1:Q9):Option (Int):=
  ((forL (fun k48 x49 (s42:Unit)=>
  (if (Q7j [ieq p1.var x49.var,ieq p1.typ.data x49.typ.data,ieq p1.typ.index x49.typ.index])=true then
  some (Ctl.ret ((k48:Int)))
  else
  some (Ctl.go ()))) 0 p0 ()).bind fun (o41:Ctl _ (Unit))=>match o41 with
  | .ret r=>some r
  | .go _=>none
  | .brk s52=>
  some ((-1)))
def Q09 (p0:(List Q9))(p1:Q9):Option (Bool):=
  ((Q31 p0 p1).bind fun r1=>
  some (ile 0 r1))
def Q5r (p0:Q9)(q0:(List Q9)):Option (Bool):=
  ((Q09 q0 p0).bind fun r1=>
  some ((!r1)))
def Q5c (p0:(List Q9))(p1:(List Q9)):Option (Bool):=
  (if (ieq (lenZ p0.length) (lenZ p1.length))=true then
  ((Q16 p0 (fun a0=>Q5r a0 p1)).bind fun r5=>
  some ((!r5)))
  else
  some (false))
def Q1l:Nat→(List Q4)→Q1→Q0→Int→Int→Option ((List Q9)×Bool×Int)
 | 0,_,_,_,_,_=>none
 | n+1,p0,p1,p2,p3,p4=>
  (if (ilt 60 (wadd .i64 p4 1))=true then
  some (([],false,wadd .i64 p4 1))
  else
  (if (ilt 10 p3)=true then
  some (([],false,wadd .i64 p4 1))
  else
  ((Q6c p0 p1 p2).bind fun r11=>
  (if (!r11.2)=true then
  some (([],false,wadd .i64 p4 1))
  else
  (((if (ieq p2.op 2)=true then
  ((app [] [(Q9.mk p2.var p1)]).bind fun x33=>
  some (Ctl.brk [(Q9.mk p2.var p1)]))
  else
  (if (ieq p2.op 6)=true then
  ((app [] [(Q9.mk p2.var p1)]).bind fun x35=>
  some (Ctl.brk [(Q9.mk p2.var p1)]))
  else
  some (Ctl.brk [])))).bind fun (o24:Ctl _ ((List Q9)))=>match o24 with
  | .ret r=>some r
  | .go _=>none
  | .brk s23=>
  ((forL (fun k287 x288 (s281:Int×(List Q9))=>
  ((((idx r11.1 (k287:Int)).bind fun x315=>
  ((Q1l n p0 x315 x288 (wadd .i64 p3 1) s281.1).bind fun r316=>
  (if (!r316.2.1)=true then
  some (Ctl.ret (Ctl.ret (([],false,r316.2.2))))
  else
  (if (ieq p2.op 5)=true then
  (if (ieq (k287:Int) 1)=true then
  ((Q5c s281.2 r316.1).bind fun r328=>
  (if (!r328)=true then
  some (Ctl.ret (Ctl.ret (([],false,r316.2.2))))
  else
  some (Ctl.brk (r316.2.2,s281.2))))
  else
  ((app s281.2 r316.1).bind fun x331=>
  some (Ctl.brk (r316.2.2,x331))))
  else
  ((app s281.2 r316.1).bind fun x332=>
  some (Ctl.brk (r316.2.2,x332)))))))).bind fun (o312:Ctl _ (Int×(List Q9)))=>match o312 with
  | .ret r=>some r
  | .go _=>none
  | .brk s311=>
  some (Ctl.go (s311.1,s311.2)))) 0 p2.kids (wadd .i64 p4 1,s23)).bind fun (o280:Ctl _ (Int×(List Q9)))=>match o280 with
  | .ret r=>some r
  | .go _=>none
  | .brk s291=>
  ((forL (fun k423 x424 (s417:(List Bool))=>
  ((aget 6 s417 x424.var).bind fun x435=>
  (if x435=true then
  some (Ctl.ret (([],false,s291.1)))
  else
  ((aset 6 s417 x424.var true).bind fun x437=>
  some (Ctl.go x437))))) 0 s291.2 [false,false,false,false,false,false]).bind fun (o416:Ctl _ ((List Bool)))=>match o416 with
  | .ret r=>some r
  | .go _=>none
  | .brk s427=>
  some ((s291.2,true,s291.1)))))))))
def Q2d (n:Nat)(p0:(List Q4))(p1:Q1)(p2:Q0):Option ((List Q9)×Bool):=
  ((Q1l n p0 p1 p2 1 0).bind fun r1=>
  some ((r1.1,r1.2.1)))
def Q65 (p0:Q34)(p1:(List Q9)):Option (Bool):=
  (if (ieq p0.op 0)=true then
  some (Q7j [ieq p0.op 0,ieq p0.var 0,ieq p0.n 0])
  else
  ((V2 p0.op 1 2).bind fun r14=>
  (if r14=true then
  ((V2 p0.n 0 9).bind fun r16=>
  (if r16=true then
  ((Q09 p1 (Q9.mk p0.var (Q1.mk (-1) 0))).bind fun r18=>
  some (r18))
  else
  some (false)))
  else
  some (false))))
def Q46 (n:Nat)(p0:(List Q4))(p1:Q1)(p2:Q5):Option (Bool):=
  ((Q2d n p0 p1 p2.pat).bind fun r1=>
  (if r1.2=true then
  ((Q65 p2.guard r1.1).bind fun r6=>
  some (r6))
  else
  some (false)))
def Q3l (n:Nat)(p0:Q5)(q0:(List Q4))(q1:Q1):Option (Bool):=
  ((Q46 n q0 q1 p0).bind fun r1=>
  some ((!r1)))
def Q3u (p0:(List Q5))(p1:(Q5→Option Bool)):Option (Int):=
  ((forL (fun k68 x69 (s62:Unit)=>
  ((p1 x69).bind fun r76=>
  (if r76=true then
  some (Ctl.ret ((k68:Int)))
  else
  some (Ctl.go ())))) 0 p0 ()).bind fun (o61:Ctl _ (Unit))=>match o61 with
  | .ret r=>some r
  | .go _=>none
  | .brk s72=>
  some ((-1)))
def Q1i (p0:(List Q5))(p1:(Q5→Option Bool)):Option (Bool):=
  ((Q3u p0 p1).bind fun r1=>
  some (ile 0 r1))
def J2 (n:Nat)(p0:(List Q4))(p1:Q1)(p2:(List Q5)):Option (Bool):=
  ((Q1s n p0 p1).bind fun r9=>
  (if r9=true then
  (if (ile (lenZ p2.length) 8)=true then
  ((Q1i p2 (fun a0=>Q3l n a0 p0 p1)).bind fun r12=>
  some ((!r12)))
  else
  some (false))
  else
  some (false)))
def Q1d:Nat→Q0→Option (Int)
 | 0,_=>none
 | n+1,p0=>
  (((if (ieq p0.op 5)=true then
  some (Ctl.brk 0)
  else
  some (Ctl.brk 1))).bind fun (o3:Ctl _ (Int))=>match o3 with
  | .ret r=>some r
  | .go _=>none
  | .brk s2=>
  ((forL (fun k116 x117 (s110:Int)=>
  (((if (ieq p0.op 5)=true then
  ((Q1d n x117).bind fun r131=>
  some (Ctl.brk (imin (wadd .i64 s110 r131) 401)))
  else
  ((Q1d n x117).bind fun r133=>
  some (Ctl.brk (imin (wmul .i64 s110 r133) 401))))).bind fun (o127:Ctl _ (Int))=>match o127 with
  | .ret r=>some r
  | .go _=>none
  | .brk s126=>
  some (Ctl.go s126))) 0 p0.kids s2).bind fun (o109:Ctl _ (Int))=>match o109 with
  | .ret r=>some r
  | .go _=>none
  | .brk s120=>
  some (s120)))
def Y1 (p0:(List Q0)):Option ((List Q0)):=
  ((app [] p0).bind fun x3=>
  some (p0))
def Q2n:Nat→Q0→Option ((List Q0))
 | 0,_=>none
 | n+1,p0=>
  (if (ieq p0.op 5)=true then
  ((idx p0.kids 0).bind fun x10=>
  ((idx p0.kids 1).bind fun x11=>
  ((Q2n n x10).bind fun r12=>
  ((Q2n n x11).bind fun r13=>
  ((app r12 r13).bind fun x14=>
  some (x14))))))
  else
  ((forL (fun k6036 x6037 (s6030:(List Q0))=>
  ((Q2n n x6037).bind fun r6639=>
  ((forL (fun k7139 x7140 (s7133:(List Q0))=>
  ((forL (fun k7223 x7224 (s7217:(List Q0))=>
  ((Y1 x7140.kids).bind fun r7232=>
  ((app r7232 [x7224]).bind fun x7233=>
  ((app s7217 [(Q0.mk x7140.op x7140.ctor x7140.n x7140.m x7140.var x7233)]).bind fun x7234=>
  some (Ctl.go (s7217++[(Q0.mk x7140.op x7140.ctor x7140.n x7140.m x7140.var x7233)])))))) 0 r6639 s7133).bind fun (o7216:Ctl _ ((List Q0)))=>match o7216 with
  | .ret r=>some r
  | .go _=>none
  | .brk s7227=>
  some (Ctl.go s7227))) 0 s6030 []).bind fun (o7132:Ctl _ ((List Q0)))=>match o7132 with
  | .ret r=>some r
  | .go _=>none
  | .brk s7143=>
  some (Ctl.go s7143)))) 0 p0.kids [(Q0.mk p0.op p0.ctor p0.n p0.m p0.var [])]).bind fun (o6029:Ctl _ ((List Q0)))=>match o6029 with
  | .ret r=>some r
  | .go _=>none
  | .brk s6040=>
  some (s6040)))
def Q2f:Nat→(List Q4)→Q1→Q3→Int→Bool→Int→Option (Bool×Int)
 | 0,_,_,_,_,_,_=>none
 | n+1,p0,p1,p2,p3,p4,p5=>
  (if (ilt 60 (wadd .i64 p5 1))=true then
  some ((false,wadd .i64 p5 1))
  else
  (if (ilt 10 p3)=true then
  some ((false,wadd .i64 p5 1))
  else
  (((if p4=true then
  (if (ieq p2.ctor (-2))=true then
  (if (ieq p2.n 0)=true then
  some (Ctl.ret ((ieq (lenZ p2.kids.length) 0,wadd .i64 p5 1)))
  else
  some (Ctl.ret ((false,wadd .i64 p5 1))))
  else
  (if (ieq p1.data (-1))=true then
  (if (ieq p2.ctor (-1))=true then
  ((V2 p2.n 0 9).bind fun r208=>
  (if r208=true then
  some (Ctl.ret ((ieq (lenZ p2.kids.length) 0,wadd .i64 p5 1)))
  else
  some (Ctl.ret ((false,wadd .i64 p5 1)))))
  else
  some (Ctl.ret ((false,wadd .i64 p5 1))))
  else
  (if (!ieq p2.n 0)=true then
  some (Ctl.ret ((false,wadd .i64 p5 1)))
  else
  ((Q0n p0 p1).bind fun r224=>
  ((J6 r224 p2.ctor).bind fun r225=>
  (if (!r225)=true then
  some (Ctl.ret ((false,wadd .i64 p5 1)))
  else
  some (Ctl.brk ())))))))
  else
  (if (ieq p1.data (-1))=true then
  (if (ieq p2.ctor (-1))=true then
  ((V2 p2.n 0 9).bind fun r236=>
  (if r236=true then
  some (Ctl.ret ((ieq (lenZ p2.kids.length) 0,wadd .i64 p5 1)))
  else
  some (Ctl.ret ((false,wadd .i64 p5 1)))))
  else
  some (Ctl.ret ((false,wadd .i64 p5 1))))
  else
  (if (!ieq p2.n 0)=true then
  some (Ctl.ret ((false,wadd .i64 p5 1)))
  else
  ((Q0n p0 p1).bind fun r252=>
  ((J6 r252 p2.ctor).bind fun r253=>
  (if (!r253)=true then
  some (Ctl.ret ((false,wadd .i64 p5 1)))
  else
  some (Ctl.brk ())))))))).bind fun (o133:Ctl _ (Unit))=>match o133 with
  | .ret r=>some r
  | .go _=>none
  | .brk s132=>
  ((Y9 p0 p1 p2.ctor).bind fun r257=>
  (if (!ieq (lenZ r257.length) (lenZ p2.kids.length))=true then
  some ((false,wadd .i64 p5 1))
  else
  ((forL (fun k339 x340 (s333:Int)=>
  ((idx r257 (k339:Int)).bind fun x348=>
  ((Q2f n p0 x348 x340 (wadd .i64 p3 1) p4 s333).bind fun r349=>
  (if (!r349.1)=true then
  some (Ctl.ret ((false,r349.2)))
  else
  some (Ctl.go r349.2))))) 0 p2.kids (wadd .i64 p5 1)).bind fun (o332:Ctl _ (Int))=>match o332 with
  | .ret r=>some r
  | .go _=>none
  | .brk s343=>
  some ((true,s343))))))))
def Q25 (n:Nat)(p0:(List Q4))(p1:Q1)(p2:Q3):Option (Bool):=
  ((Q2f n p0 p1 p2 1 false 0).bind fun r1=>
  some (r1.1))
def Q4o (p0:(List X3))(p1:(X3→Option Bool)):Option (Int):=
  ((forL (fun k68 x69 (s62:Unit)=>
  ((p1 x69).bind fun r76=>
  (if r76=true then
  some (Ctl.ret ((k68:Int)))
  else
  some (Ctl.go ())))) 0 p0 ()).bind fun (o61:Ctl _ (Unit))=>match o61 with
  | .ret r=>some r
  | .go _=>none
  | .brk s72=>
  some ((-1)))
def Q4q (p0:X3)(q0:Q34):Option (Bool):=
  some (ieq p0.var q0.var)
def Q2q (p0:Q34)(p1:(List X3)):Option (Bool):=
  (if (ieq p0.op 0)=true then
  some (true)
  else
  ((Q4o p1 (fun a0=>Q4q a0 p0)).bind fun r3=>
  (if (ilt r3 0)=true then
  some (false)
  else
  ((idx p1 r3).bind fun x18=>
  (if (!ieq x18.value.ctor (-1))=true then
  some (false)
  else
  (if (ieq p0.op 1)=true then
  (if (ilt x18.value.n p0.n)=true then
  some (true)
  else
  (if (ieq p0.op 2)=true then
  some (ieq x18.value.n p0.n)
  else
  some (false)))
  else
  (if (ieq p0.op 2)=true then
  some (ieq x18.value.n p0.n)
  else
  some (false))))))))
def Q2c:Nat→Q3→Option (Q3)
 | 0,_=>none
 | n+1,p0=>
  ((forL (fun k70 x71 (s64:(List Q3))=>
  ((Q2c n x71).bind fun r78=>
  ((app s64 [r78]).bind fun x79=>
  some (Ctl.go x79)))) 0 p0.kids []).bind fun (o63:Ctl _ ((List Q3)))=>match o63 with
  | .ret r=>some r
  | .go _=>none
  | .brk s74=>
  some ((Q3.mk p0.ctor p0.n s74)))
def Q43 (p0:(List (List Q0))):Option ((List (List Q0))):=
  ((forL (fun k12480 x12481 (s12474:(List (List Q0)))=>
  ((forL (fun k13906 x13907 (s13900:(List (List Q0)))=>
  (if (ile (lenZ s13900.length) 400)=true then
  ((forL (fun k14008 x14009 (s14002:(List (List Q0)))=>
  (if (ile (lenZ s14002.length) 400)=true then
  ((app [] x13907).bind fun x14018=>
  ((app x13907 [x14009]).bind fun x14019=>
  ((app s14002 [x14019]).bind fun x14020=>
  some (Ctl.go (s14002++[x14019])))))
  else
  some (Ctl.brk s14002))) 0 x12481 s13900).bind fun (o14001:Ctl _ ((List (List Q0))))=>match o14001 with
  | .ret r=>some r
  | .go _=>none
  | .brk s14012=>
  some (Ctl.go s14012))
  else
  some (Ctl.brk s13900))) 0 s12474 []).bind fun (o13899:Ctl _ ((List (List Q0))))=>match o13899 with
  | .ret r=>some r
  | .go _=>none
  | .brk s13910=>
  some (Ctl.go s13910))) 0 p0 [[]]).bind fun (o12473:Ctl _ ((List (List Q0))))=>match o12473 with
  | .ret r=>some r
  | .go _=>none
  | .brk s12484=>
  some (s12484))
def Q1k:Nat→Q0→Option ((List Q0))
 | 0,_=>none
 | n+1,p0=>
  (if (ieq p0.op 5)=true then
  ((idx p0.kids 0).bind fun x14=>
  ((idx p0.kids 1).bind fun x15=>
  ((Q1k n x14).bind fun r16=>
  ((Q1k n x15).bind fun r17=>
  ((app r16 r17).bind fun x18=>
  (if (ilt 401 (lenZ x18.length))=true then
  ((Q7x x18 401).bind fun x22=>
  some (x22))
  else
  some (x18)))))))
  else
  ((forL (fun k94 x95 (s88:(List (List Q0)))=>
  ((Q1k n x95).bind fun r102=>
  ((app s88 [r102]).bind fun x103=>
  some (Ctl.go (s88++[r102]))))) 0 p0.kids []).bind fun (o87:Ctl _ ((List (List Q0))))=>match o87 with
  | .ret r=>some r
  | .go _=>none
  | .brk s98=>
  ((Q43 s98).bind fun r105=>
  ((forL (fun k155 x156 (s149:(List Q0))=>
  ((app s149 [(Q0.mk p0.op p0.ctor p0.n p0.m p0.var x156)]).bind fun x161=>
  some (Ctl.go x161))) 0 r105 []).bind fun (o148:Ctl _ ((List Q0)))=>match o148 with
  | .ret r=>some r
  | .go _=>none
  | .brk s159=>
  some (s159)))))
def Q4y (p0:Q34)(p1:(List Q9)):Option (Bool):=
  (if (ieq p0.op 0)=true then
  (if (ieq p0.var 0)=true then
  some (ieq p0.n 0)
  else
  some (false))
  else
  (((if (!ieq p0.op 1)=true then
  (if (!ieq p0.op 2)=true then
  some (Ctl.ret (false))
  else
  (if (ilt p0.n 0)=true then
  some (Ctl.ret (false))
  else
  (if (ilt 9 p0.n)=true then
  some (Ctl.ret (false))
  else
  some (Ctl.brk ()))))
  else
  (if (ilt p0.n 0)=true then
  some (Ctl.ret (false))
  else
  (if (ilt 9 p0.n)=true then
  some (Ctl.ret (false))
  else
  some (Ctl.brk ()))))).bind fun (o24:Ctl _ (Unit))=>match o24 with
  | .ret r=>some r
  | .go _=>none
  | .brk s23=>
  ((Q3d p1 p0.var).bind fun r43=>
  (if (ile 0 r43)=true then
  ((idx p1 r43).bind fun x47=>
  some (ieq x47.typ.data (-1)))
  else
  some (false)))))
def Q84 (n:Nat)(p0:(List Q4))(p1:Q1)(p2:Q5):Option (Bool):=
  ((Q4k n p0 p1 p2.pat).bind fun r9=>
  (if r9=true then
  ((Q14 n [] p0 p1 p2.pat).bind fun r11=>
  ((Q4y p2.guard r11).bind fun r12=>
  some (r12)))
  else
  some (false)))
def Q87 (p0:(List Q4))(p1:Q1):Option (Bool):=
  ((Q8l (lenZ p0.length) p1).bind fun r5=>
  (if r5=true then
  some (ile 0 p1.index)
  else
  some (false)))
def Q38 (n:Nat)(p0:(List Q4))(p1:Q1):Option (Bool):=
  ((Q2o n p0).bind fun r7=>
  (if r7=true then
  ((Q87 p0 p1).bind fun r9=>
  some (r9))
  else
  some (false)))
def Q01 (n:Nat)(p0:(List Q4))(p1:Q1)(p2:(List Q5)):Option (Bool):=
  ((Q38 n p0 p1).bind fun r24=>
  (if (!r24)=true then
  some (false)
  else
  (if (ilt 8 (lenZ p2.length))=true then
  some (false)
  else
  ((forL (fun k95 x96 (s89:Unit)=>
  ((Q84 n p0 p1 x96).bind fun r103=>
  (if (!r103)=true then
  some (Ctl.ret (false))
  else
  some (Ctl.go ())))) 0 p2 ()).bind fun (o88:Ctl _ (Unit))=>match o88 with
  | .ret r=>some r
  | .go _=>none
  | .brk s99=>
  some (true)))))
def Q3f:Nat→(List Q4)→Q1→Q3→Int→Option (Bool)
 | 0,_,_,_,_=>none
 | n+1,p0,p1,p2,p3=>
  (if (ilt p3 1)=true then
  some (false)
  else
  (if (ieq p1.data (-1))=true then
  (if (ieq p2.ctor (-1))=true then
  (if (ile 0 p2.n)=true then
  (if (ile p2.n 9)=true then
  some (ieq (lenZ p2.kids.length) 0)
  else
  some (false))
  else
  some (false))
  else
  some (false))
  else
  (if (!ieq p2.n 0)=true then
  some (false)
  else
  ((Q08 p0 p1).bind fun r46=>
  ((Q59 r46 p2.ctor).bind fun r47=>
  (if (!r47)=true then
  some (false)
  else
  ((J4 p0 p1 p2.ctor).bind fun r49=>
  (if (!ieq (lenZ p2.kids.length) (lenZ r49.length))=true then
  some (false)
  else
  ((forL (fun k129 x130 (s123:Unit)=>
  ((idx p2.kids (k129:Int)).bind fun x138=>
  ((Q3f n p0 x130 x138 (wsub .i64 p3 1)).bind fun r139=>
  (if (!r139)=true then
  some (Ctl.ret (false))
  else
  some (Ctl.go ()))))) 0 r49 ()).bind fun (o122:Ctl _ (Unit))=>match o122 with
  | .ret r=>some r
  | .go _=>none
  | .brk s133=>
  some (true))))))))))
def Q3s:Nat→Q3→Int→Option (Int)
 | 0,_,_=>none
 | n+1,p0,p1=>
  ((forL (fun k94 x95 (s88:Int)=>
  (if (ile s88 p1)=true then
  ((Q3s n x95 (wsub .i64 p1 s88)).bind fun r103=>
  some (Ctl.go (wadd .i64 s88 r103)))
  else
  some (Ctl.brk s88))) 0 p0.kids 1).bind fun (o87:Ctl _ (Int))=>match o87 with
  | .ret r=>some r
  | .go _=>none
  | .brk s98=>
  some (s98))
def Q85 (n:Nat)(p0:(List Q4))(p1:Q1)(p2:Q3):Option (Bool):=
  ((Q3f n p0 p1 p2 10).bind fun r7=>
  (if r7=true then
  ((Q3s n p2 60).bind fun r9=>
  some (ile r9 60))
  else
  some (false)))
def Q4l:Nat→Q3→Option (Q3)
 | 0,_=>none
 | n+1,p0=>
  ((forL (fun k70 x71 (s64:(List Q3))=>
  ((Q4l n x71).bind fun r78=>
  ((app s64 [r78]).bind fun x79=>
  some (Ctl.go x79)))) 0 p0.kids []).bind fun (o63:Ctl _ ((List Q3)))=>match o63 with
  | .ret r=>some r
  | .go _=>none
  | .brk s74=>
  some ((Q3.mk p0.ctor p0.n s74)))
def Q2p (p0:Q34)(p1:(List X3)):Option (Bool):=
  (if (ieq p0.op 0)=true then
  some (true)
  else
  ((forL (fun k188 x189 (s182:Unit)=>
  (((if (!ieq x189.var p0.var)=true then
  some (Ctl.brk ())
  else
  (if (ieq x189.value.ctor (-1))=true then
  (if (ieq p0.op 1)=true then
  (if (ilt x189.value.n p0.n)=true then
  some (Ctl.ret (Ctl.ret (true)))
  else
  (if (ieq p0.op 2)=true then
  some (Ctl.ret (Ctl.ret (ieq x189.value.n p0.n)))
  else
  some (Ctl.ret (Ctl.ret (false)))))
  else
  (if (ieq p0.op 2)=true then
  some (Ctl.ret (Ctl.ret (ieq x189.value.n p0.n)))
  else
  some (Ctl.ret (Ctl.ret (false)))))
  else
  some (Ctl.ret (Ctl.ret (false)))))).bind fun (o206:Ctl _ (Unit))=>match o206 with
  | .ret r=>some r
  | .go _=>none
  | .brk s205=>
  some (Ctl.go ()))) 0 p1 ()).bind fun (o181:Ctl _ (Unit))=>match o181 with
  | .ret r=>some r
  | .go _=>none
  | .brk s192=>
  some (false)))
def Q0g (p0:(List Q3))(p1:(List Q3))(p2:(Q3→Q3→Option Bool)):Option (Bool):=
  (if (!ieq (lenZ p0.length) (lenZ p1.length))=true then
  some (false)
  else
  ((forL (fun k80 x81 (s74:Unit)=>
  ((idx p1 (k80:Int)).bind fun x89=>
  ((p2 x81 x89).bind fun r90=>
  (if (!r90)=true then
  some (Ctl.ret (false))
  else
  some (Ctl.go ()))))) 0 p0 ()).bind fun (o73:Ctl _ (Unit))=>match o73 with
  | .ret r=>some r
  | .go _=>none
  | .brk s84=>
  some (true)))
def Q06:Nat→Q3→Q3→Option (Bool)
 | 0,_,_=>none
 | n+1,p0,p1=>
  (if (ieq p0.ctor p1.ctor)=true then
  (if (ieq p0.n p1.n)=true then
  ((Q0g p0.kids p1.kids (fun a0 a1=>Q06 n a0 a1)).bind fun r7=>
  some (r7))
  else
  some (false))
  else
  some (false))
def Q3k:Nat→Q0→Q3→Option ((List X3)×Bool)
 | 0,_,_=>none
 | n+1,p0,p1=>
  (if (ieq p0.op 1)=true then
  some (([],true))
  else
  (if (ieq p0.op 2)=true then
  some (([(X3.mk p0.var p1)],true))
  else
  (if (ieq p0.op 3)=true then
  ((V2 p1.n p0.n p0.m).bind fun r26=>
  some (([],r26)))
  else
  (if (ieq p0.op 5)=true then
  ((idx p0.kids 0).bind fun x33=>
  ((Q3k n x33 p1).bind fun r34=>
  (if r34.2=true then
  some ((r34.1,true))
  else
  ((idx p0.kids 1).bind fun x36=>
  ((Q3k n x36 p1).bind fun r37=>
  some ((r37.1,r37.2)))))))
  else
  (if (ieq p0.op 6)=true then
  ((idx p0.kids 0).bind fun x41=>
  ((Q3k n x41 p1).bind fun r42=>
  ((app [(X3.mk p0.var p1)] r42.1).bind fun x43=>
  some ((x43,r42.2)))))
  else
  (if (!ieq p0.ctor p1.ctor)=true then
  some (([],false))
  else
  ((forL (fun k146 x147 (s140:(List X3))=>
  ((idx p1.kids (k146:Int)).bind fun x157=>
  ((Q3k n x147 x157).bind fun r158=>
  (if (!r158.2)=true then
  some (Ctl.ret (([],false)))
  else
  ((app s140 r158.1).bind fun x161=>
  some (Ctl.go x161)))))) 0 p0.kids []).bind fun (o139:Ctl _ ((List X3)))=>match o139 with
  | .ret r=>some r
  | .go _=>none
  | .brk s150=>
  some ((s150,true)))))))))
def Y4 (n:Nat)(p0:(List X3))(p1:Int)(p2:Int)(p3:(X3→X3→Option Int)):Option ((List X3)):=
  ((whileL (fun (s544:(List X3)×Int)=>
  (if (ilt s544.2 p2)=true then
  ((whileL (fun (s774:(List X3)×Int)=>
  (if (ilt p1 s774.2)=true then
  ((idx s774.1 s774.2).bind fun x814=>
  ((idx s774.1 (wsub .i64 s774.2 1)).bind fun x815=>
  ((p3 x814 x815).bind fun r816=>
  (if (ilt r816 0)=true then
  ((setI s774.1 s774.2 x815).bind fun x821=>
  ((idx x821 (wsub .i64 s774.2 1)).bind fun x822=>
  ((setI x821 (wsub .i64 s774.2 1) x814).bind fun x823=>
  some (Ctl.go (x823,wsub .i64 s774.2 1)))))
  else
  some (Ctl.brk (s774.1,s774.2))))))
  else
  some (Ctl.brk (s774.1,s774.2)))) n (s544.1,s544.2)).bind fun (o773:Ctl _ ((List X3)×Int))=>match o773 with
  | .ret r=>some r
  | .go _=>none
  | .brk s784=>
  some (Ctl.go (s784.1,wadd .i64 s544.2 1)))
  else
  some (Ctl.brk (s544.1,s544.2)))) n (p0,wadd .i64 p1 1)).bind fun (o543:Ctl _ ((List X3)×Int))=>match o543 with
  | .ret r=>some r
  | .go _=>none
  | .brk s554=>
  some (s554.1))
def Q1h:Nat→(List X3)→Int→Int→Int→(X3→X3→Option Int)→Option ((List X3))
 | 0,_,_,_,_,_=>none
 | n+1,p0,p1,p2,p3,p4=>
  ((whileL (fun (s12:Unit)=>
  (if (ile (wsub .i64 p2 p1) 12)=true then
  ((Y4 n p0 p1 p2 p4).bind fun r28=>
  ((chk (decide ((r28).length=(p0).length))).bind fun x29=>
  some (Ctl.ret (r28))))
  else
  (if (ieq p3 0)=true then
  none
  else
  none))) n ()).bind fun (o11:Ctl _ (Unit))=>match o11 with
  | .ret r=>some r
  | .go _=>none
  | .brk s22=>
  some (p0))
def Q0w (n:Nat)(p0:(List X3))(p1:(X3→X3→Option Int)):Option ((List X3)):=
  ((Q6p (wcv .u64 (lenZ p0.length))).bind fun r1=>
  ((Q1h n p0 0 (lenZ p0.length) r1 p1).bind fun r2=>
  ((chk (decide ((r2).length=(p0).length))).bind fun x3=>
  some (r2))))
def Q1r (p0:X3)(p1:X3):Option (Int):=
  ((Q49 p0.var p1.var).bind fun r1=>
  some (r1))
def Q52 (n:Nat)(p0:Q0)(p1:Q3):Option ((List X3)×Bool):=
  ((Q3k n p0 p1).bind fun r1=>
  (if (!r1.2)=true then
  some (([],false))
  else
  ((Q0w n r1.1 (fun a0 a1=>Q1r a0 a1)).bind fun r4=>
  ((chk (decide ((r4).length=(r1.1).length))).bind fun x5=>
  ((forL (fun k77 x78 (s71:(List X3))=>
  ((idx s71 (k77:Int)).bind fun x86=>
  ((Q2c n x86.value).bind fun r87=>
  ((setI s71 (k77:Int) (X3.mk x86.var r87)).bind fun x88=>
  some (Ctl.go x88))))) 0 r4 r4).bind fun (o70:Ctl _ ((List X3)))=>match o70 with
  | .ret r=>some r
  | .go _=>none
  | .brk s81=>
  some ((s81,true)))))))
def Q5s (n:Nat)(p0:(List Q5))(p1:Q3):Option (Int×(List X3)):=
  ((forL (fun k188 x189 (s182:Unit)=>
  ((((Q52 n x189.pat p1).bind fun r210=>
  (if r210.2=true then
  ((Q2q x189.guard r210.1).bind fun r219=>
  (if r219=true then
  some (Ctl.ret (Ctl.ret (((k188:Int),r210.1))))
  else
  some (Ctl.brk ())))
  else
  some (Ctl.brk ())))).bind fun (o207:Ctl _ (Unit))=>match o207 with
  | .ret r=>some r
  | .go _=>none
  | .brk s206=>
  some (Ctl.go ()))) 0 p0 ()).bind fun (o181:Ctl _ (Unit))=>match o181 with
  | .ret r=>some r
  | .go _=>none
  | .brk s192=>
  some (((-1),[])))
def Q23 (n:Nat)(p0:(List Q4))(p1:Q1)(p2:(List Q5))(p3:Q3):Option (Int×(List X3)×Bool):=
  ((J2 n p0 p1 p2).bind fun r34=>
  (if (!r34)=true then
  some (((-1),[],false))
  else
  ((Q25 n p0 p1 p3).bind fun r37=>
  (if (!r37)=true then
  some (((-1),[],false))
  else
  ((Q5s n p2 p3).bind fun r39=>
  some ((r39.1,r39.2,true)))))))
def Q4d  : Option (Q0):=
  some ((Q0.mk 1 0 0 0 0 []))
def W9 (n:Nat)(p0:(List Int)):Option ((List Q4)×Q1×(List Q5)):=
  ((Q3t p0).bind fun r1=>
  ((Q3q n r1).bind fun r2=>
  (((if (ilt 0 (lenZ r2.2.2.1.length))=true then
  ((Z4 r2.2.2.2.2 4).bind fun r35=>
  (if (ieq r35.1 0)=true then
  ((Q4d).bind fun r37=>
  ((app r2.2.2.1 [(Q5.mk r37 (Q34.mk 0 0 0))]).bind fun x38=>
  some (Ctl.brk (r35.2,x38))))
  else
  some (Ctl.brk (r35.2,r2.2.2.1))))
  else
  some (Ctl.brk (r2.2.2.2.2,r2.2.2.1)))).bind fun (o21:Ctl _ (Z0×(List Q5)))=>match o21 with
  | .ret r=>some r
  | .go _=>none
  | .brk s20=>
  ((Q2s n s20.1 s20.2).bind fun r41=>
  some ((r2.1,r2.2.1,r41.1))))))
def Q1e  : Option (Q0):=
  some ((Q0.mk 1 0 0 0 0 []))
def Q05 (p0:(List Int))(p1:Q1):Option (Int):=
  (if (ieq p1.data (-1))=true then
  some (1)
  else
  ((X1z 4 4 p0 p1.data p1.index).bind fun x3=>
  some (x3)))
def Q0r (p0:(List Int))(p1:(List Q4))(p2:Q1)(p3:Int):Option (Int):=
  ((Y9 p1 p2 p3).bind fun r49=>
  ((forL (fun k83 x84 (s77:Int)=>
  ((Q05 p0 x84).bind fun r92=>
  (if (ieq r92 0)=true then
  some (Ctl.ret (0))
  else
  some (Ctl.go (imax s77 r92))))) 0 r49 0).bind fun (o76:Ctl _ (Int))=>match o76 with
  | .ret r=>some r
  | .go _=>none
  | .brk s87=>
  some (wadd .i64 s87 1)))
def Q5f (n:Nat)(p0:(List Q4)):Option ((List Int)):=
  ((whileL (fun (s38729:(List Int)×Bool)=>
  (if s38729.2=true then
  ((forL (fun k43904 x43905 (s43898:(List Int)×Bool)=>
  ((whileL (fun (s46048:(List Int)×Bool×Int)=>
  (if (ile s46048.2.2 3)=true then
  ((Q0n p0 (Q1.mk (k43904:Int) s46048.2.2)).bind fun r46272=>
  ((forL (fun k46415 x46416 (s46409:(List Int)×Bool)=>
  ((((Q0r s46409.1 p0 (Q1.mk (k43904:Int) s46048.2.2) x46416).bind fun r46453=>
  (if (ilt 0 r46453)=true then
  ((Q05 s46409.1 (Q1.mk (k43904:Int) s46048.2.2)).bind fun r46472=>
  (if (ieq r46472 0)=true then
  ((X1u 4 4 s46409.1 (k43904:Int) s46048.2.2 r46453).bind fun x46474=>
  some (Ctl.brk (x46474,true)))
  else
  ((Q05 s46409.1 (Q1.mk (k43904:Int) s46048.2.2)).bind fun r46476=>
  (if (ilt r46453 r46476)=true then
  ((X1u 4 4 s46409.1 (k43904:Int) s46048.2.2 r46453).bind fun x46478=>
  some (Ctl.brk (x46478,true)))
  else
  some (Ctl.brk (s46409.1,s46409.2))))))
  else
  some (Ctl.brk (s46409.1,s46409.2))))).bind fun (o46450:Ctl _ ((List Int)×Bool))=>match o46450 with
  | .ret r=>some r
  | .go _=>none
  | .brk s46449=>
  some (Ctl.go (s46449.1,s46449.2)))) 0 r46272 (s46048.1,s46048.2.1)).bind fun (o46408:Ctl _ ((List Int)×Bool))=>match o46408 with
  | .ret r=>some r
  | .go _=>none
  | .brk s46419=>
  some (Ctl.go (s46419.1,s46419.2,wadd .i64 s46048.2.2 1))))
  else
  some (Ctl.brk (s46048.1,s46048.2.1,s46048.2.2)))) n (s43898.1,s43898.2,0)).bind fun (o46047:Ctl _ ((List Int)×Bool×Int))=>match o46047 with
  | .ret r=>some r
  | .go _=>none
  | .brk s46058=>
  some (Ctl.go (s46058.1,s46058.2.1)))) 0 p0 (s38729.1,false)).bind fun (o43897:Ctl _ ((List Int)×Bool))=>match o43897 with
  | .ret r=>some r
  | .go _=>none
  | .brk s43908=>
  some (Ctl.go (s43908.1,s43908.2)))
  else
  some (Ctl.brk (s38729.1,s38729.2)))) n ([0,0,0,0,0,0,0,0,0,0,0,0,0,0,0,0],true)).bind fun (o38728:Ctl _ ((List Int)×Bool))=>match o38728 with
  | .ret r=>some r
  | .go _=>none
  | .brk s38739=>
  some (s38739.1))
def Q2g (n:Nat)(p0:(List Q4)):Option (Q0s):=
  ((Q5f n p0).bind fun r1=>
  some ((Q0s.mk p0 r1)))
def Q0m:Nat→(List Q4)→(List Int)→Q1→Q0→Option (Bool)
 | 0,_,_,_,_=>none
 | n+1,p0,p1,p2,p3=>
  (if (ieq p3.op 1)=true then
  ((Q07 p1 p2).bind fun r5=>
  some (ilt 0 r5))
  else
  (if (ieq p3.op 3)=true then
  some (true)
  else
  ((J4 p0 p2 p3.ctor).bind fun r9=>
  ((forL (fun k87 x88 (s81:Unit)=>
  ((idx p3.kids (k87:Int)).bind fun x96=>
  ((Q0m n p0 p1 x88 x96).bind fun r97=>
  (if (!r97)=true then
  some (Ctl.ret (false))
  else
  some (Ctl.go ()))))) 0 r9 ()).bind fun (o80:Ctl _ (Unit))=>match o80 with
  | .ret r=>some r
  | .go _=>none
  | .brk s91=>
  some (true)))))
def Q4h (p0:(List Q4))(p1:Q1)(p2:Int):Option (Q0):=
  ((J4 p0 p1 p2).bind fun r1=>
  ((forL (fun k63 x64 (s57:(List Q0))=>
  ((Q4d).bind fun r71=>
  ((app s57 [r71]).bind fun x72=>
  some (Ctl.go x72)))) 0 r1 []).bind fun (o56:Ctl _ ((List Q0)))=>match o56 with
  | .ret r=>some r
  | .go _=>none
  | .brk s67=>
  some ((Q0.mk 4 p2 0 0 0 s67))))
def Q44 (p0:(List Q4))(p1:Q1)(p2:Q0):Option ((List Q1)):=
  ((Q6c p0 p1 p2).bind fun r1=>
  some (r1.1))
def W6:Nat→Q0s→Q1→Q0→Option (Bool)
 | 0,_,_,_=>none
 | n+1,p0,p1,p2=>
  (((if (ieq p2.op 1)=true then
  some (Ctl.brk (ieq p2.op 1))
  else
  some (Ctl.brk (ieq p2.op 2)))).bind fun (o29:Ctl _ (Bool))=>match o29 with
  | .ret r=>some r
  | .go _=>none
  | .brk s28=>
  (if s28=true then
  ((Q05 p0.d p1).bind fun r34=>
  some (ieq r34 0))
  else
  (if (ieq p2.op 5)=true then
  ((idx p2.kids 0).bind fun x45=>
  ((W6 n p0 p1 x45).bind fun r46=>
  (if r46=true then
  ((idx p2.kids 1).bind fun x48=>
  ((W6 n p0 p1 x48).bind fun r49=>
  some (r49)))
  else
  some (false))))
  else
  ((Q44 p0.w p1 p2).bind fun r100=>
  ((forL (fun k133 x134 (s127:Unit)=>
  ((idx p2.kids (k133:Int)).bind fun x142=>
  ((W6 n p0 x134 x142).bind fun r143=>
  (if r143=true then
  some (Ctl.ret (true))
  else
  some (Ctl.go ()))))) 0 r100 ()).bind fun (o126:Ctl _ (Unit))=>match o126 with
  | .ret r=>some r
  | .go _=>none
  | .brk s137=>
  some (false))))))
def Q33 (n:Nat)(p0:Q0)(q0:Q0s)(q1:Q1):Option (Bool):=
  ((W6 n q0 q1 p0).bind fun r1=>
  some (r1))
def J8 (p0:(List Q0))(p1:(Q0→Option Bool)):Option (Int):=
  ((forL (fun k68 x69 (s62:Unit)=>
  ((p1 x69).bind fun r76=>
  (if r76=true then
  some (Ctl.ret ((k68:Int)))
  else
  some (Ctl.go ())))) 0 p0 ()).bind fun (o61:Ctl _ (Unit))=>match o61 with
  | .ret r=>some r
  | .go _=>none
  | .brk s72=>
  some ((-1)))
def J5 (n:Nat)(p0:(List Q0))(p1:(Q0→Option Bool)):Option ((List Q0)):=
  ((J8 p0 p1).bind fun r1=>
  (if (ieq r1 (-1))=true then
  some (p0)
  else
  ((whileL (fun (s113:(List Q0)×Int×Int)=>
  (if (ilt s113.2.2 (lenZ s113.1.length))=true then
  ((((idx s113.1 s113.2.2).bind fun x136=>
  ((p1 x136).bind fun r137=>
  (if (!r137)=true then
  ((idx s113.1 s113.2.1).bind fun x139=>
  ((setI s113.1 s113.2.1 x136).bind fun x140=>
  some (Ctl.brk (x140,wadd .i64 s113.2.1 1))))
  else
  some (Ctl.brk (s113.1,s113.2.1)))))).bind fun (o133:Ctl _ ((List Q0)×Int))=>match o133 with
  | .ret r=>some r
  | .go _=>none
  | .brk s132=>
  some (Ctl.go (s132.1,s132.2,wadd .i64 s113.2.2 1)))
  else
  some (Ctl.brk (s113.1,s113.2.1,s113.2.2)))) n (p0,r1,wadd .i64 r1 1)).bind fun (o112:Ctl _ ((List Q0)×Int×Int))=>match o112 with
  | .ret r=>some r
  | .go _=>none
  | .brk s123=>
  ((Q7x s123.1 s123.2.1).bind fun x142=>
  some (x142)))))
def Q0q (n:Nat)(p0:Q0s)(p1:Q1)(p2:(List Q0)):Option ((List Q0)):=
  ((Y1 p2).bind fun r1=>
  ((J5 n r1 (fun a0=>Q33 n a0 p0 p1)).bind fun r2=>
  some (r2)))
def Q64 (p0:Q0):Option (Int×Int):=
  (if (ieq p0.op 1)=true then
  some ((0,9))
  else
  some ((p0.n,p0.m)))
def Q2k (n:Nat)(p0:(List Int)):Option ((List Q0)):=
  ((whileL (fun (s88:(List Q0)×Int)=>
  (if (ilt s88.2 (lenZ p0.length))=true then
  ((((idx p0 s88.2).bind fun x109=>
  ((idx p0 (wadd .i64 s88.2 1)).bind fun x110=>
  (if (ile x109 x110)=true then
  ((app s88.1 [(Q0.mk 3 0 x109 x110 0 [])]).bind fun x112=>
  some (Ctl.brk (s88.1++[(Q0.mk 3 0 x109 x110 0 [])])))
  else
  some (Ctl.brk s88.1))))).bind fun (o106:Ctl _ ((List Q0)))=>match o106 with
  | .ret r=>some r
  | .go _=>none
  | .brk s105=>
  some (Ctl.go (s105,wadd .i64 s88.2 2)))
  else
  some (Ctl.brk (s88.1,s88.2)))) n ([],0)).bind fun (o87:Ctl _ ((List Q0)×Int))=>match o87 with
  | .ret r=>some r
  | .go _=>none
  | .brk s98=>
  some (s98.1))
def Q2x (p0:Q0s)(p1:Q1)(p2:Int):Option (Q0):=
  ((Y9 p0.w p1 p2).bind fun r39=>
  ((forL (fun k65 x66 (s59:(List Q0))=>
  ((Q1e).bind fun r73=>
  ((app s59 [r73]).bind fun x74=>
  some (Ctl.go x74)))) 0 r39 []).bind fun (o58:Ctl _ ((List Q0)))=>match o58 with
  | .ret r=>some r
  | .go _=>none
  | .brk s69=>
  some ((Q0.mk 4 p2 0 0 0 s69))))
def Q2b (p1:Int):Option ((List Q0)):=
  (if (ilt p1 0)=true then
  none
  else
  (((if (ilt 0 (wsub .i64 p1 (wsub .i64 0 (lenZ 0))))=true then
  ((chk (ieq 0 0)).bind fun x11=>
  ((mkS (wsub .i64 p1 (wsub .i64 0 (lenZ 0))) (Q0.mk 0 0 0 0 0 [])).bind fun x12=>
  some (Ctl.brk ())))
  else
  some (Ctl.brk ()))).bind fun (o7:Ctl _ (Unit))=>match o7 with
  | .ret r=>some r
  | .go _=>none
  | .brk s6=>
  some ([])))
def Q02 (p0:(List (List Q0))):Option ((List Q0)):=
  ((forL (fun k50 x51 (s44:Int)=>
  (if (ilt (wadd .i64 s44 (lenZ x51.length)) 0)=true then
  none
  else
  some (Ctl.go (wadd .i64 s44 (lenZ x51.length))))) 0 p0 0).bind fun (o43:Ctl _ (Int))=>match o43 with
  | .ret r=>some r
  | .go _=>none
  | .brk s54=>
  ((Q2b s54).bind fun r57=>
  ((forL (fun k107 x108 (s101:(List Q0))=>
  ((app s101 x108).bind fun x113=>
  some (Ctl.go x113))) 0 p0 r57).bind fun (o100:Ctl _ ((List Q0)))=>match o100 with
  | .ret r=>some r
  | .go _=>none
  | .brk s111=>
  some (s111))))
def W8:Nat→Q0s→Q1→Q0→Q0→Option (Q0×Bool)
 | 0,_,_,_,_=>none
 | n+1,p0,p1,p2,p3=>
  (if (ieq p2.op 1)=true then
  some ((p3,true))
  else
  (if (ieq p3.op 1)=true then
  some ((p2,true))
  else
  (if (ieq p2.op 3)=true then
  ((Q2k n [imax p2.n p3.n,imin p2.m p3.m]).bind fun r13=>
  (if (ieq (lenZ r13.length) 0)=true then
  some (((Q0.mk 0 0 0 0 0 []),false))
  else
  ((idx r13 0).bind fun x16=>
  some ((x16,true)))))
  else
  (if (!ieq p2.ctor p3.ctor)=true then
  some (((Q0.mk 0 0 0 0 0 []),false))
  else
  ((Y9 p0.w p1 p2.ctor).bind fun r85=>
  ((forL (fun k131 x132 (s125:(List Q0))=>
  ((idx p2.kids (k131:Int)).bind fun x143=>
  ((idx p3.kids (k131:Int)).bind fun x144=>
  ((W8 n p0 x132 x143 x144).bind fun r145=>
  (if (!r145.2)=true then
  some (Ctl.ret (((Q0.mk 0 0 0 0 0 []),false)))
  else
  ((app s125 [r145.1]).bind fun x148=>
  some (Ctl.go x148))))))) 0 r85 []).bind fun (o124:Ctl _ ((List Q0)))=>match o124 with
  | .ret r=>some r
  | .go _=>none
  | .brk s135=>
  some (((Q0.mk 4 p2.ctor 0 0 0 s135),true))))))))
def X7:Nat→Q0s→Q1→Q0→Q0→Option ((List Q0))
 | 0,_,_,_,_=>none
 | n+1,p0,p1,p2,p3=>
  (if (ieq p3.op 1)=true then
  some ([])
  else
  (if (ieq p3.op 3)=true then
  ((Q64 p2).bind fun r119=>
  ((Q2k n [r119.1,imin r119.2 (wsub .i64 p3.n 1),imax r119.1 (wadd .i64 p3.m 1),r119.2]).bind fun r120=>
  some (r120)))
  else
  (if (ieq p2.op 1)=true then
  ((Q0n p0.w p1).bind fun r178=>
  ((forL (fun k216 x217 (s210:(List Q0))=>
  ((Q2x p0 p1 x217).bind fun r226=>
  ((X7 n p0 p1 r226 p3).bind fun r227=>
  ((app s210 r227).bind fun x228=>
  some (Ctl.go x228))))) 0 r178 []).bind fun (o209:Ctl _ ((List Q0)))=>match o209 with
  | .ret r=>some r
  | .go _=>none
  | .brk s220=>
  some (s220)))
  else
  (if (!ieq p2.ctor p3.ctor)=true then
  some ([p2])
  else
  ((Y9 p0.w p1 p2.ctor).bind fun r1105=>
  ((forL (fun k1761 x1762 (s1755:(List Q0)×(List Q0))=>
  ((idx p2.kids (k1761:Int)).bind fun x1921=>
  ((idx p3.kids (k1761:Int)).bind fun x1922=>
  ((X7 n p0 x1762 x1921 x1922).bind fun r1923=>
  ((forL (fun k1957 x1958 (s1951:(List Q0))=>
  ((Z61 p2.kids (wadd .i64 (k1761:Int) 1)).bind fun x1966=>
  ((Q02 [s1755.2,[x1958],x1966]).bind fun r1967=>
  ((app s1951 [(Q0.mk 4 p2.ctor 0 0 0 r1967)]).bind fun x1968=>
  some (Ctl.go x1968))))) 0 r1923 s1755.1).bind fun (o1950:Ctl _ ((List Q0)))=>match o1950 with
  | .ret r=>some r
  | .go _=>none
  | .brk s1961=>
  ((W8 n p0 x1762 x1921 x1922).bind fun r1970=>
  (if (!r1970.2)=true then
  some (Ctl.brk (s1961,s1755.2))
  else
  ((app s1755.2 [r1970.1]).bind fun x1973=>
  some (Ctl.go (s1961,x1973)))))))))) 0 r1105 ([],[])).bind fun (o1754:Ctl _ ((List Q0)×(List Q0)))=>match o1754 with
  | .ret r=>some r
  | .go _=>none
  | .brk s1765=>
  some (s1765.1)))))))
def Q0k (n:Nat)(p0:Q0s)(p1:Q1)(p2:(List Q0))(p3:(List Q0)):Option ((List Q0)×Bool):=
  ((Q0q n p0 p1 p2).bind fun r1=>
  ((forL (fun k871 x872 (s865:(List Q0))=>
  ((forL (fun k1028 x1029 (s1022:(List Q0))=>
  ((X7 n p0 p1 x1029 x872).bind fun r1036=>
  ((app s1022 r1036).bind fun x1037=>
  some (Ctl.go x1037)))) 0 s865 []).bind fun (o1021:Ctl _ ((List Q0)))=>match o1021 with
  | .ret r=>some r
  | .go _=>none
  | .brk s1032=>
  ((Q0q n p0 p1 s1032).bind fun r1039=>
  (if (ilt 400 (lenZ r1039.length))=true then
  some (Ctl.ret (([],false)))
  else
  some (Ctl.go r1039))))) 0 p3 r1).bind fun (o864:Ctl _ ((List Q0)))=>match o864 with
  | .ret r=>some r
  | .go _=>none
  | .brk s875=>
  some ((s875,true))))
def Q0y (n:Nat)(p0:Q0s)(p1:Q1)(p2:(List Q0)):Option ((List Q0)×Bool):=
  ((forL (fun k100 x101 (s94:(List Q0))=>
  ((Q7x p2 (k100:Int)).bind fun x111=>
  ((Q0k n p0 p1 [x101] x111).bind fun r112=>
  (if (!r112.2)=true then
  some (Ctl.ret (([],false)))
  else
  ((app s94 r112.1).bind fun x115=>
  some (Ctl.go x115)))))) 0 p2 []).bind fun (o93:Ctl _ ((List Q0)))=>match o93 with
  | .ret r=>some r
  | .go _=>none
  | .brk s104=>
  some ((s104,true)))
def Q17 (p0:(List Q0))(p1:(Q0→Option Bool)):Option (Bool):=
  ((J8 p0 p1).bind fun r1=>
  some (ile 0 r1))
def Q39 (n:Nat)(p0:(List Q4))(p1:Q1)(p2:Q0):Option (Bool):=
  ((Q2d n p0 p1 p2).bind fun r1=>
  some (r1.2))
def Q32 (n:Nat)(p0:Q0)(q0:Q0s)(q1:Q1):Option (Bool):=
  ((Q39 n q0.w q1 p0).bind fun r1=>
  some ((!r1)))
def Q1c:Nat→Q0→Option (Q0)
 | 0,_=>none
 | n+1,p0=>
  ((forL (fun k70 x71 (s64:(List Q0))=>
  ((Q1c n x71).bind fun r78=>
  ((app s64 [r78]).bind fun x79=>
  some (Ctl.go x79)))) 0 p0.kids []).bind fun (o63:Ctl _ ((List Q0)))=>match o63 with
  | .ret r=>some r
  | .go _=>none
  | .brk s74=>
  some ((Q0.mk p0.op p0.ctor p0.n p0.m p0.var s74)))
def Q3j (n:Nat)(p0:(List Q0)):Option ((List Q0)):=
  ((forL (fun k70 x71 (s64:(List Q0))=>
  ((Q1c n x71).bind fun r78=>
  ((app s64 [r78]).bind fun x79=>
  some (Ctl.go x79)))) 0 p0 []).bind fun (o63:Ctl _ ((List Q0)))=>match o63 with
  | .ret r=>some r
  | .go _=>none
  | .brk s74=>
  some (s74))
def Q1p (n:Nat)(p0:Q0s)(p1:Q1)(p2:(List Q0))(p3:Bool):Option ((List Q0)×Bool):=
  (if (!p3)=true then
  some (([],false))
  else
  ((Q17 p2 (fun a0=>Q32 n a0 p0 p1)).bind fun r20=>
  (if r20=true then
  some (([],false))
  else
  ((Q3j n p2).bind fun r22=>
  some ((r22,true))))))
def V7:Nat→Q0→Option (Q0)
 | 0,_=>none
 | n+1,p0=>
  (((if (ieq p0.op 2)=true then
  ((Q1e).bind fun r20=>
  some (Ctl.ret (r20)))
  else
  (if (ieq p0.op 6)=true then
  (if (ilt 0 (lenZ p0.kids.length))=true then
  ((idx p0.kids 0).bind fun x30=>
  ((V7 n x30).bind fun r31=>
  some (Ctl.ret (r31))))
  else
  some (Ctl.brk ()))
  else
  some (Ctl.brk ())))).bind fun (o16:Ctl _ (Unit))=>match o16 with
  | .ret r=>some r
  | .go _=>none
  | .brk s15=>
  ((forL (fun k102 x103 (s96:(List Q0))=>
  ((V7 n x103).bind fun r110=>
  ((app s96 [r110]).bind fun x111=>
  some (Ctl.go x111)))) 0 p0.kids []).bind fun (o95:Ctl _ ((List Q0)))=>match o95 with
  | .ret r=>some r
  | .go _=>none
  | .brk s106=>
  some ((Q0.mk p0.op p0.ctor p0.n p0.m p0.var s106))))
def Q5d (n:Nat)(p0:Q0):Option ((List Q0)×Bool):=
  ((V7 n p0).bind fun r1=>
  ((Q1d n r1).bind fun r5=>
  (if (ilt 40 r5)=true then
  some (([],false))
  else
  ((Q2n n r1).bind fun r7=>
  some ((r7,true))))))
def Q45 (n:Nat)(p0:(List Q5)):Option ((List Q0)×Bool):=
  ((forL (fun k130 x131 (s124:(List Q0))=>
  (((if (!ieq x131.guard.op 0)=true then
  some (Ctl.brk s124)
  else
  ((Q5d n x131.pat).bind fun r148=>
  (if (!r148.2)=true then
  some (Ctl.ret (Ctl.ret (([],false))))
  else
  ((app s124 r148.1).bind fun x151=>
  some (Ctl.brk x151)))))).bind fun (o143:Ctl _ ((List Q0)))=>match o143 with
  | .ret r=>some r
  | .go _=>none
  | .brk s142=>
  some (Ctl.go s142))) 0 p0 []).bind fun (o123:Ctl _ ((List Q0)))=>match o123 with
  | .ret r=>some r
  | .go _=>none
  | .brk s134=>
  some ((s134,true)))
def J3 (n:Nat)(p0:(List Q4))(p1:Q1)(p2:(List Q5))(p3:Int):Option ((List Q0)×Bool):=
  ((J2 n p0 p1 p2).bind fun r34=>
  (if (!r34)=true then
  some (([],false))
  else
  ((V2 p3 0 (wsub .i64 (lenZ p2.length) 1)).bind fun r37=>
  (if (!r37)=true then
  some (([],false))
  else
  ((idx p2 p3).bind fun x39=>
  ((Q5d n x39.pat).bind fun r40=>
  ((Q7x p2 p3).bind fun x41=>
  ((Q45 n x41).bind fun r42=>
  (if (!r40.2)=true then
  some (([],false))
  else
  (if (!r42.2)=true then
  some (([],false))
  else
  ((Q2g n p0).bind fun r53=>
  ((Q0y n r53 p1 r40.1).bind fun r54=>
  (((if r54.2=true then
  ((Q0k n r53 p1 r54.1 r42.1).bind fun r63=>
  some (Ctl.brk (r63.1,r63.2)))
  else
  some (Ctl.brk (r54.1,r54.2)))).bind fun (o59:Ctl _ ((List Q0)×Bool))=>match o59 with
  | .ret r=>some r
  | .go _=>none
  | .brk s58=>
  ((Q1p n r53 p1 s58.1 s58.2).bind fun r65=>
  some ((r65.1,r65.2))))))))))))))))
def Q2y (n:Nat)(p0:(List Q4))(p1:Q1)(p2:Q0):Option (Bool):=
  ((Q1s n p0 p1).bind fun r7=>
  (if r7=true then
  ((Q39 n p0 p1 p2).bind fun r9=>
  some (r9))
  else
  some (false)))
def J7:Nat→Q0s→Q1→Q0→Option (Bool)
 | 0,_,_,_=>none
 | n+1,p0,p1,p2=>
  (if (ieq p2.op 1)=true then
  ((Q05 p0.d p1).bind fun r22=>
  some (ilt 10 r22))
  else
  (if (ieq p2.op 2)=true then
  ((Q05 p0.d p1).bind fun r25=>
  some (ilt 10 r25))
  else
  ((Q44 p0.w p1 p2).bind fun r74=>
  ((forL (fun k107 x108 (s101:Unit)=>
  ((idx p2.kids (k107:Int)).bind fun x116=>
  ((J7 n p0 x108 x116).bind fun r117=>
  (if r117=true then
  some (Ctl.ret (true))
  else
  some (Ctl.go ()))))) 0 r74 ()).bind fun (o100:Ctl _ (Unit))=>match o100 with
  | .ret r=>some r
  | .go _=>none
  | .brk s111=>
  some (false)))))
def Q4p (p0:Int):Option (Q3):=
  some ((Q3.mk (-1) p0 []))
def Q5e:Nat→(List Q4)→(List Int)→Q1→Option (Q3)
 | 0,_,_,_=>none
 | n+1,p0,p1,p2=>
  (if (ieq p2.data (-1))=true then
  ((Q4p 0).bind fun r5=>
  some (r5))
  else
  ((Q0n p0 p2).bind fun r606=>
  ((forL (fun k1007 x1008 (s1001:Unit)=>
  ((((Q0r p1 p0 p2 x1008).bind fun r1115=>
  ((Q05 p1 p2).bind fun r1116=>
  (if (!ieq r1115 r1116)=true then
  some (Ctl.brk ())
  else
  ((Y9 p0 p2 x1008).bind fun r1160=>
  ((forL (fun k1190 x1191 (s1184:(List Q3))=>
  ((Q5e n p0 p1 x1191).bind fun r1198=>
  ((app s1184 [r1198]).bind fun x1199=>
  some (Ctl.go x1199)))) 0 r1160 []).bind fun (o1183:Ctl _ ((List Q3)))=>match o1183 with
  | .ret r=>some r
  | .go _=>none
  | .brk s1194=>
  some (Ctl.ret (Ctl.ret ((Q3.mk x1008 0 s1194)))))))))).bind fun (o1107:Ctl _ (Unit))=>match o1107 with
  | .ret r=>some r
  | .go _=>none
  | .brk s1106=>
  some (Ctl.go ()))) 0 r606 ()).bind fun (o1000:Ctl _ (Unit))=>match o1000 with
  | .ret r=>some r
  | .go _=>none
  | .brk s1011=>
  some ((Q3.mk 0 0 [])))))
def V1:Nat→Q0s→Q1→Q0→Option (Q3)
 | 0,_,_,_=>none
 | n+1,p0,p1,p2=>
  (((if (ieq p2.op 1)=true then
  some (Ctl.brk (ieq p2.op 1))
  else
  some (Ctl.brk (ieq p2.op 2)))).bind fun (o36:Ctl _ (Bool))=>match o36 with
  | .ret r=>some r
  | .go _=>none
  | .brk s35=>
  (if s35=true then
  ((Q5e n p0.w p0.d p1).bind fun r41=>
  some (r41))
  else
  (if (ieq p2.op 3)=true then
  ((Q4p p2.n).bind fun r44=>
  some (r44))
  else
  (if (ieq p2.op 6)=true then
  ((idx p2.kids 0).bind fun x47=>
  ((V1 n p0 p1 x47).bind fun r48=>
  some (r48)))
  else
  (if (ieq p2.op 5)=true then
  ((idx p2.kids 0).bind fun x58=>
  ((W6 n p0 p1 x58).bind fun r59=>
  (if r59=true then
  ((idx p2.kids 1).bind fun x61=>
  ((V1 n p0 p1 x61).bind fun r62=>
  some (r62)))
  else
  ((V1 n p0 p1 x58).bind fun r64=>
  some (r64)))))
  else
  ((Y9 p0.w p1 p2.ctor).bind fun r115=>
  ((forL (fun k149 x150 (s143:(List Q3))=>
  ((idx p2.kids (k149:Int)).bind fun x158=>
  ((V1 n p0 x150 x158).bind fun r159=>
  ((app s143 [r159]).bind fun x160=>
  some (Ctl.go x160))))) 0 r115 []).bind fun (o142:Ctl _ ((List Q3)))=>match o142 with
  | .ret r=>some r
  | .go _=>none
  | .brk s153=>
  some ((Q3.mk p2.ctor 0 s153)))))))))
def Q1q (n:Nat)(p0:(List Q4))(p1:Q1)(p2:Q0):Option (Q3×Bool):=
  ((Q2y n p0 p1 p2).bind fun r4=>
  (if (!r4)=true then
  some (((Q3.mk 0 0 []),false))
  else
  ((Q2g n p0).bind fun r6=>
  ((W6 n r6 p1 p2).bind fun r40=>
  (if r40=true then
  some (((Q3.mk 0 0 []),false))
  else
  ((J7 n r6 p1 p2).bind fun r43=>
  (if r43=true then
  some (((Q3.mk 0 0 []),false))
  else
  ((V1 n r6 p1 p2).bind fun r45=>
  ((Q25 n p0 p1 r45).bind fun r49=>
  (if (!r49)=true then
  some (((Q3.mk 0 0 []),false))
  else
  some ((r45,true))))))))))))
def Q03 (n:Nat)(p0:(List Q4))(p1:Q1)(p2:(List Q5))(p3:Int):Option (Q3×Bool):=
  ((J3 n p0 p1 p2 p3).bind fun r1=>
  (if (!r1.2)=true then
  some (((Q3.mk 0 0 []),false))
  else
  ((forL (fun k131 x132 (s125:Unit)=>
  ((((Q1q n p0 p1 x132).bind fun r147=>
  (if (!r147.2)=true then
  some (Ctl.brk ())
  else
  ((Q5s n p2 r147.1).bind fun r150=>
  (if (ieq r150.1 p3)=true then
  some (Ctl.ret (Ctl.ret ((r147.1,true))))
  else
  some (Ctl.brk ())))))).bind fun (o144:Ctl _ (Unit))=>match o144 with
  | .ret r=>some r
  | .go _=>none
  | .brk s143=>
  some (Ctl.go ()))) 0 r1.1 ()).bind fun (o124:Ctl _ (Unit))=>match o124 with
  | .ret r=>some r
  | .go _=>none
  | .brk s135=>
  some (((Q3.mk 0 0 []),false)))))
def Q24:Nat→(List X3)→Q0→Q3→Option ((List X3)×Bool)
 | 0,_,_,_=>none
 | n+1,p0,p1,p2=>
  (if (ieq p1.op 1)=true then
  some ((p0,true))
  else
  (if (ieq p1.op 2)=true then
  ((app [] p0).bind fun x25=>
  ((app p0 [(X3.mk p1.var p2)]).bind fun x26=>
  some ((x26,true))))
  else
  (if (ieq p1.op 3)=true then
  (if (ile p1.n p2.n)=true then
  some ((p0,ile p2.n p1.m))
  else
  some ((p0,false)))
  else
  (if (ieq p1.op 5)=true then
  ((idx p1.kids 0).bind fun x31=>
  ((Q24 n p0 x31 p2).bind fun r32=>
  (if r32.2=true then
  some ((r32.1,true))
  else
  ((idx p1.kids 1).bind fun x35=>
  ((Q24 n p0 x35 p2).bind fun r36=>
  some ((r36.1,r36.2)))))))
  else
  (if (ieq p1.op 6)=true then
  ((idx p1.kids 0).bind fun x40=>
  ((app [] p0).bind fun x41=>
  ((app p0 [(X3.mk p1.var p2)]).bind fun x42=>
  ((Q24 n x42 x40 p2).bind fun r43=>
  some ((r43.1,r43.2))))))
  else
  (if (!ieq p2.ctor p1.ctor)=true then
  some ((p0,false))
  else
  ((forL (fun k136 x137 (s130:(List X3))=>
  ((idx p2.kids (k136:Int)).bind fun x146=>
  ((Q24 n s130 x137 x146).bind fun r147=>
  (if (!r147.2)=true then
  some (Ctl.ret ((s130,false)))
  else
  some (Ctl.go r147.1))))) 0 p1.kids p0).bind fun (o129:Ctl _ ((List X3)))=>match o129 with
  | .ret r=>some r
  | .go _=>none
  | .brk s140=>
  some ((s140,true)))))))))
def Q5o (n:Nat)(p0:(List X3)):Option ((List X3)):=
  ((whileL (fun (s608:(List X3)×Int)=>
  (if (ile s608.2 5)=true then
  ((forL (fun k720 x721 (s714:(List X3))=>
  (((if (ieq x721.var s608.2)=true then
  ((Q4l n x721.value).bind fun r734=>
  ((app s714 [(X3.mk s608.2 r734)]).bind fun x735=>
  some (Ctl.brk x735)))
  else
  some (Ctl.brk s714))).bind fun (o730:Ctl _ ((List X3)))=>match o730 with
  | .ret r=>some r
  | .go _=>none
  | .brk s729=>
  some (Ctl.go s729))) 0 p0 s608.1).bind fun (o713:Ctl _ ((List X3)))=>match o713 with
  | .ret r=>some r
  | .go _=>none
  | .brk s724=>
  some (Ctl.go (s724,wadd .i64 s608.2 1)))
  else
  some (Ctl.brk (s608.1,s608.2)))) n ([],0)).bind fun (o607:Ctl _ ((List X3)×Int))=>match o607 with
  | .ret r=>some r
  | .go _=>none
  | .brk s618=>
  some (s618.1))
def Q58 (n:Nat)(p0:(List Q5))(p1:Q3):Option (Int×(List X3)):=
  ((forL (fun k228 x229 (s222:Unit)=>
  ((((Q24 n [] x229.pat p1).bind fun r254=>
  (if r254.2=true then
  ((Q2p x229.guard r254.1).bind fun r265=>
  (if r265=true then
  ((Q5o n r254.1).bind fun r267=>
  some (Ctl.ret (Ctl.ret (((k228:Int),r267)))))
  else
  some (Ctl.brk ())))
  else
  some (Ctl.brk ())))).bind fun (o251:Ctl _ (Unit))=>match o251 with
  | .ret r=>some r
  | .go _=>none
  | .brk s250=>
  some (Ctl.go ()))) 0 p0 ()).bind fun (o221:Ctl _ (Unit))=>match o221 with
  | .ret r=>some r
  | .go _=>none
  | .brk s232=>
  some (((-1),[])))
def V6:Nat→Q0→Option (Q0)
 | 0,_=>none
 | n+1,p0=>
  (((if (ieq p0.op 2)=true then
  some (Ctl.ret ((Q0.mk 1 0 0 0 0 [])))
  else
  (if (ieq p0.op 6)=true then
  (if (ilt 0 (lenZ p0.kids.length))=true then
  ((idx p0.kids 0).bind fun x14=>
  ((V6 n x14).bind fun r15=>
  some (Ctl.ret (r15))))
  else
  some (Ctl.brk ()))
  else
  some (Ctl.brk ())))).bind fun (o8:Ctl _ (Unit))=>match o8 with
  | .ret r=>some r
  | .go _=>none
  | .brk s7=>
  ((forL (fun k86 x87 (s80:(List Q0))=>
  ((V6 n x87).bind fun r94=>
  ((app s80 [r94]).bind fun x95=>
  some (Ctl.go x95)))) 0 p0.kids []).bind fun (o79:Ctl _ ((List Q0)))=>match o79 with
  | .ret r=>some r
  | .go _=>none
  | .brk s90=>
  some ((Q0.mk p0.op p0.ctor p0.n p0.m p0.var s90))))
def Q3p (n:Nat)(p0:Q0):Option ((List Q0)):=
  ((V6 n p0).bind fun r1=>
  ((Q1k n r1).bind fun r2=>
  some (r2)))
def Q3c (n:Nat)(p0:(List Q4))(p1:(List Int))(p2:Q1)(p3:(List Q0)):Option ((List Q0)):=
  ((forL (fun k100 x101 (s94:(List Q0))=>
  ((((Q0m n p0 p1 p2 x101).bind fun r113=>
  (if r113=true then
  ((app s94 [x101]).bind fun x115=>
  some (Ctl.brk x115))
  else
  some (Ctl.brk s94)))).bind fun (o110:Ctl _ ((List Q0)))=>match o110 with
  | .ret r=>some r
  | .go _=>none
  | .brk s109=>
  some (Ctl.go s109))) 0 p3 []).bind fun (o93:Ctl _ ((List Q0)))=>match o93 with
  | .ret r=>some r
  | .go _=>none
  | .brk s104=>
  some (s104))
def Q41 (p0:Q0)(p1:Q0):Option ((List Q0)):=
  (((if (ilt (wsub .i64 p1.n 1) p0.m)=true then
  some (Ctl.brk (wsub .i64 p1.n 1))
  else
  some (Ctl.brk p0.m))).bind fun (o3:Ctl _ (Int))=>match o3 with
  | .ret r=>some r
  | .go _=>none
  | .brk s2=>
  (((if (ile p0.n s2)=true then
  ((app [] [(Q0.mk 3 0 p0.n s2 0 [])]).bind fun x14=>
  some (Ctl.brk [(Q0.mk 3 0 p0.n s2 0 [])]))
  else
  some (Ctl.brk []))).bind fun (o10:Ctl _ ((List Q0)))=>match o10 with
  | .ret r=>some r
  | .go _=>none
  | .brk s9=>
  (((if (ilt p0.n (wadd .i64 p1.m 1))=true then
  some (Ctl.brk (wadd .i64 p1.m 1))
  else
  some (Ctl.brk p0.n))).bind fun (o17:Ctl _ (Int))=>match o17 with
  | .ret r=>some r
  | .go _=>none
  | .brk s16=>
  (((if (ile s16 p0.m)=true then
  ((app s9 [(Q0.mk 3 0 s16 p0.m 0 [])]).bind fun x28=>
  some (Ctl.brk (s9++[(Q0.mk 3 0 s16 p0.m 0 [])])))
  else
  some (Ctl.brk s9))).bind fun (o24:Ctl _ ((List Q0)))=>match o24 with
  | .ret r=>some r
  | .go _=>none
  | .brk s23=>
  some (s23)))))
def Q0o:Nat→Q0→Q0→Option (Q0×Bool)
 | 0,_,_=>none
 | n+1,p0,p1=>
  (if (ieq p0.op 1)=true then
  some ((p1,true))
  else
  (if (ieq p1.op 1)=true then
  some ((p0,true))
  else
  (if (ieq p0.op 3)=true then
  (((if (ilt p0.n p1.n)=true then
  some (Ctl.brk p1.n)
  else
  some (Ctl.brk p0.n))).bind fun (o22:Ctl _ (Int))=>match o22 with
  | .ret r=>some r
  | .go _=>none
  | .brk s21=>
  (((if (ilt p1.m p0.m)=true then
  some (Ctl.brk p1.m)
  else
  some (Ctl.brk p0.m))).bind fun (o28:Ctl _ (Int))=>match o28 with
  | .ret r=>some r
  | .go _=>none
  | .brk s27=>
  some (((Q0.mk 3 0 s21 s27 0 []),ile s21 s27))))
  else
  (if (!ieq p0.ctor p1.ctor)=true then
  some (((Q0.mk 0 0 0 0 0 []),false))
  else
  ((forL (fun k132 x133 (s126:(List Q0))=>
  ((idx p1.kids (k132:Int)).bind fun x143=>
  ((Q0o n x133 x143).bind fun r144=>
  (if (!r144.2)=true then
  some (Ctl.ret (((Q0.mk 0 0 0 0 0 []),false)))
  else
  ((app s126 [r144.1]).bind fun x147=>
  some (Ctl.go x147)))))) 0 p0.kids []).bind fun (o125:Ctl _ ((List Q0)))=>match o125 with
  | .ret r=>some r
  | .go _=>none
  | .brk s136=>
  some (((Q0.mk 4 p0.ctor 0 0 0 s136),true)))))))
mutual
def V4:Nat→(List Q4)→Q1→Q0→Q0→Option ((List Q0))
 | 0,_,_,_,_=>none
 | n+1,p0,p1,p2,p3=>
  (if (ieq p3.op 1)=true then
  some ([])
  else
  (if (ieq p3.op 3)=true then
  (if (ieq p2.op 1)=true then
  ((Q41 (Q0.mk 3 0 0 9 0 []) p3).bind fun r52=>
  some (r52))
  else
  ((Q41 p2 p3).bind fun r54=>
  some (r54)))
  else
  (if (ieq p2.op 4)=true then
  (if (!ieq p2.ctor p3.ctor)=true then
  some ([p2])
  else
  ((Q6k n p0 p1 p2 p3).bind fun r63=>
  some (r63)))
  else
  ((Q08 p0 p1).bind fun r65=>
  ((forL (fun k155 x156 (s149:(List Q0))=>
  ((Q4h p0 p1 x156).bind fun r165=>
  ((V4 n p0 p1 r165 p3).bind fun r166=>
  ((app s149 r166).bind fun x167=>
  some (Ctl.go x167))))) 0 r65 []).bind fun (o148:Ctl _ ((List Q0)))=>match o148 with
  | .ret r=>some r
  | .go _=>none
  | .brk s159=>
  some (s159))))))
def Q6k:Nat→(List Q4)→Q1→Q0→Q0→Option ((List Q0))
 | 0,_,_,_,_=>none
 | n+1,p0,p1,p2,p3=>
  ((J4 p0 p1 p2.ctor).bind fun r1=>
  ((forL (fun k1173 x1174 (s1167:(List Q0)×(List Q0))=>
  ((idx p2.kids (k1173:Int)).bind fun x1291=>
  ((idx p3.kids (k1173:Int)).bind fun x1292=>
  ((V4 n p0 x1174 x1291 x1292).bind fun r1293=>
  ((forL (fun k1383 x1384 (s1377:(List Q0))=>
  ((app [] s1167.2).bind fun x1393=>
  ((app s1167.2 [x1384]).bind fun x1394=>
  ((Z61 p2.kids (wadd .i64 (k1173:Int) 1)).bind fun x1395=>
  ((app x1394 x1395).bind fun x1396=>
  ((app s1377 [(Q0.mk 4 p2.ctor 0 0 0 x1396)]).bind fun x1397=>
  some (Ctl.go (s1377++[(Q0.mk 4 p2.ctor 0 0 0 x1396)])))))))) 0 r1293 s1167.1).bind fun (o1376:Ctl _ ((List Q0)))=>match o1376 with
  | .ret r=>some r
  | .go _=>none
  | .brk s1387=>
  ((Q0o n x1291 x1292).bind fun r1398=>
  (if (!r1398.2)=true then
  some (Ctl.ret (s1387))
  else
  ((app s1167.2 [r1398.1]).bind fun x1401=>
  some (Ctl.go (s1387,x1401)))))))))) 0 r1 ([],[])).bind fun (o1166:Ctl _ ((List Q0)×(List Q0)))=>match o1166 with
  | .ret r=>some r
  | .go _=>none
  | .brk s1177=>
  some (s1177.1)))
end
def Q42 (n:Nat)(p0:(List Q4))(p1:(List Int))(p2:Q1)(p3:(List Q0))(p4:(List Q0)):Option ((List Q0)×Bool):=
  ((forL (fun k1538 x1539 (s1532:(List Q0))=>
  ((forL (fun k1807 x1808 (s1801:(List Q0))=>
  (if (ile (lenZ s1801.length) 400)=true then
  ((V4 n p0 p2 x1808 x1539).bind fun r1819=>
  ((Q3c n p0 p1 p2 r1819).bind fun r1820=>
  ((app s1801 r1820).bind fun x1821=>
  some (Ctl.go x1821))))
  else
  some (Ctl.brk s1801))) 0 s1532 []).bind fun (o1800:Ctl _ ((List Q0)))=>match o1800 with
  | .ret r=>some r
  | .go _=>none
  | .brk s1811=>
  (if (ilt 400 (lenZ s1811.length))=true then
  some (Ctl.ret (([],false)))
  else
  some (Ctl.go s1811)))) 0 p4 p3).bind fun (o1531:Ctl _ ((List Q0)))=>match o1531 with
  | .ret r=>some r
  | .go _=>none
  | .brk s1542=>
  ((Q3c n p0 p1 p2 s1542).bind fun r1825=>
  some ((r1825,true))))
def Q4x (n:Nat)(p0:(List Q4))(p1:(List Int))(p2:Q1)(p3:(List Q0)):Option ((List Q0)×Bool):=
  ((forL (fun k182 x183 (s176:(List Q0))=>
  ((subI p3 (k182:Int) (wadd .i64 (k182:Int) 1)).bind fun x202=>
  ((Q7x p3 (k182:Int)).bind fun x203=>
  ((Q42 n p0 p1 p2 x202 x203).bind fun r204=>
  (if (!r204.2)=true then
  some (Ctl.ret (([],false)))
  else
  (if (ilt 400 (wadd .i64 (lenZ s176.length) (lenZ r204.1.length)))=true then
  some (Ctl.ret (([],false)))
  else
  ((app s176 r204.1).bind fun x215=>
  some (Ctl.go x215)))))))) 0 p3 []).bind fun (o175:Ctl _ ((List Q0)))=>match o175 with
  | .ret r=>some r
  | .go _=>none
  | .brk s186=>
  some ((s186,true)))
def Q60 (n:Nat)(p0:(List Q5))(p1:Int):Option ((List Q0)×Bool):=
  ((whileL (fun (s138:(List Q0)×Int)=>
  (if (ilt s138.2 p1)=true then
  ((((idx p0 s138.2).bind fun x166=>
  (if (!ieq x166.guard.op 0)=true then
  some (Ctl.brk s138.1)
  else
  ((Q3p n x166.pat).bind fun r168=>
  (if (ilt 40 (lenZ r168.length))=true then
  some (Ctl.ret (Ctl.ret (([],false))))
  else
  ((app s138.1 r168).bind fun x171=>
  some (Ctl.brk x171))))))).bind fun (o161:Ctl _ ((List Q0)))=>match o161 with
  | .ret r=>some r
  | .go _=>none
  | .brk s160=>
  some (Ctl.go (s160,wadd .i64 s138.2 1)))
  else
  some (Ctl.brk (s138.1,s138.2)))) n ([],0)).bind fun (o137:Ctl _ ((List Q0)×Int))=>match o137 with
  | .ret r=>some r
  | .go _=>none
  | .brk s148=>
  some ((s148.1,true)))
def Q3e:Nat→Q0→Option (Q0)
 | 0,_=>none
 | n+1,p0=>
  ((forL (fun k70 x71 (s64:(List Q0))=>
  ((Q3e n x71).bind fun r78=>
  ((app s64 [r78]).bind fun x79=>
  some (Ctl.go x79)))) 0 p0.kids []).bind fun (o63:Ctl _ ((List Q0)))=>match o63 with
  | .ret r=>some r
  | .go _=>none
  | .brk s74=>
  some ((Q0.mk p0.op p0.ctor p0.n p0.m p0.var s74)))
def Q4e (n:Nat)(p0:(List Q0)):Option ((List Q0)):=
  ((forL (fun k70 x71 (s64:(List Q0))=>
  ((Q3e n x71).bind fun r78=>
  ((app s64 [r78]).bind fun x79=>
  some (Ctl.go x79)))) 0 p0 []).bind fun (o63:Ctl _ ((List Q0)))=>match o63 with
  | .ret r=>some r
  | .go _=>none
  | .brk s74=>
  some (s74))
def Q61 (n:Nat)(p0:(List Q4))(p1:Q1)(p2:(List Q0))(p3:Bool):Option ((List Q0)×Bool):=
  ((forL (fun k68 x69 (s62:Unit)=>
  ((Q4k n p0 p1 x69).bind fun r76=>
  (if (!r76)=true then
  some (Ctl.ret (([],false)))
  else
  some (Ctl.go ())))) 0 p2 ()).bind fun (o61:Ctl _ (Unit))=>match o61 with
  | .ret r=>some r
  | .go _=>none
  | .brk s72=>
  ((Q4e n p2).bind fun r79=>
  some ((r79,p3))))
def Q5n (n:Nat)(p0:(List Q4))(p1:Q1)(p2:(List Q0))(p3:(List Q5))(p4:Int):Option ((List Q0)×Bool):=
  ((Q60 n p3 p4).bind fun r1=>
  (if (!r1.2)=true then
  some (([],false))
  else
  ((Q12 n p0).bind fun r4=>
  ((Q42 n p0 r4 p1 p2 r1.1).bind fun r5=>
  ((Q61 n p0 p1 r5.1 r5.2).bind fun r6=>
  some ((r6.1,r6.2)))))))
def Q1w (n:Nat)(p0:(List Q4))(p1:Q1)(p2:(List Q5))(p3:Int):Option ((List Q0)×Bool):=
  ((Q01 n p0 p1 p2).bind fun r34=>
  (if (!r34)=true then
  some (([],false))
  else
  (if (ilt p3 0)=true then
  some (([],false))
  else
  (if (ile (lenZ p2.length) p3)=true then
  some (([],false))
  else
  ((idx p2 p3).bind fun x40=>
  ((Q3p n x40.pat).bind fun r41=>
  (if (ilt 40 (lenZ r41.length))=true then
  some (([],false))
  else
  ((Q12 n p0).bind fun r44=>
  ((Q4x n p0 r44 p1 r41).bind fun r45=>
  (if (!r45.2)=true then
  some (([],false))
  else
  ((Q5n n p0 p1 r45.1 p2 p3).bind fun r48=>
  some ((r48.1,r48.2)))))))))))))
def Q20 (n:Nat)(p0:(List Q4))(p1:Q1)(p2:Q0):Option (Bool):=
  ((Q38 n p0 p1).bind fun r7=>
  (if r7=true then
  ((Q4k n p0 p1 p2).bind fun r9=>
  some (r9))
  else
  some (false)))
def Q13:Nat→(List Q4)→(List Int)→Q1→Q0→Option (Bool)
 | 0,_,_,_,_=>none
 | n+1,p0,p1,p2,p3=>
  (((if (ieq p3.op 1)=true then
  some (Ctl.brk (ieq p3.op 1))
  else
  some (Ctl.brk (ieq p3.op 2)))).bind fun (o34:Ctl _ (Bool))=>match o34 with
  | .ret r=>some r
  | .go _=>none
  | .brk s33=>
  (if s33=true then
  ((Q07 p1 p2).bind fun r39=>
  some (ilt 0 r39))
  else
  (if (ieq p3.op 3)=true then
  some (true)
  else
  (if (ieq p3.op 5)=true then
  ((idx p3.kids 0).bind fun x51=>
  ((Q13 n p0 p1 p2 x51).bind fun r52=>
  (if r52=true then
  some (true)
  else
  ((idx p3.kids 1).bind fun x55=>
  ((Q13 n p0 p1 p2 x55).bind fun r56=>
  some (r56))))))
  else
  (if (ieq p3.op 6)=true then
  ((idx p3.kids 0).bind fun x60=>
  ((Q13 n p0 p1 p2 x60).bind fun r61=>
  some (r61)))
  else
  ((J4 p0 p2 p3.ctor).bind fun r63=>
  ((forL (fun k141 x142 (s135:Unit)=>
  ((idx p3.kids (k141:Int)).bind fun x150=>
  ((Q13 n p0 p1 x142 x150).bind fun r151=>
  (if (!r151)=true then
  some (Ctl.ret (false))
  else
  some (Ctl.go ()))))) 0 r63 ()).bind fun (o134:Ctl _ (Unit))=>match o134 with
  | .ret r=>some r
  | .go _=>none
  | .brk s145=>
  some (true))))))))
def Q4m (n:Nat)(p0:(List Q4))(p1:Q1)(p2:Q0):Option (Bool):=
  ((Q20 n p0 p1 p2).bind fun r4=>
  (if (!r4)=true then
  some (false)
  else
  ((Q12 n p0).bind fun r6=>
  ((Q13 n p0 r6 p1 p2).bind fun r7=>
  some ((!r7))))))
def Q4c:Nat→(List Q4)→(List Int)→Q1→Q0→Option (Bool)
 | 0,_,_,_,_=>none
 | n+1,p0,p1,p2,p3=>
  (if (ieq p3.op 1)=true then
  ((Q07 p1 p2).bind fun r22=>
  some (ile r22 10))
  else
  (if (ieq p3.op 2)=true then
  ((Q07 p1 p2).bind fun r25=>
  some (ile r25 10))
  else
  ((Q2l n p0 p2 p3).bind fun r27=>
  ((forL (fun k105 x106 (s99:Unit)=>
  ((idx p3.kids (k105:Int)).bind fun x114=>
  ((Q4c n p0 p1 x106 x114).bind fun r115=>
  (if (!r115)=true then
  some (Ctl.ret (false))
  else
  some (Ctl.go ()))))) 0 r27 ()).bind fun (o98:Ctl _ (Unit))=>match o98 with
  | .ret r=>some r
  | .go _=>none
  | .brk s109=>
  some (true)))))
def Q50:Nat→(List Q4)→(List Int)→Q1→Option (Q3)
 | 0,_,_,_=>none
 | n+1,p0,p1,p2=>
  (if (ieq p2.data (-1))=true then
  some ((Q3.mk (-1) 0 []))
  else
  ((Q08 p0 p2).bind fun r3=>
  ((forL (fun k989 x990 (s983:Unit)=>
  ((((Q3g p0 p1 p2 x990).bind fun r1095=>
  ((Q07 p1 p2).bind fun r1096=>
  (if (!ieq r1095 r1096)=true then
  some (Ctl.brk ())
  else
  ((J4 p0 p2 x990).bind fun r1098=>
  ((forL (fun k1168 x1169 (s1162:(List Q3))=>
  ((Q50 n p0 p1 x1169).bind fun r1176=>
  ((app s1162 [r1176]).bind fun x1177=>
  some (Ctl.go x1177)))) 0 r1098 []).bind fun (o1161:Ctl _ ((List Q3)))=>match o1161 with
  | .ret r=>some r
  | .go _=>none
  | .brk s1172=>
  some (Ctl.ret (Ctl.ret ((Q3.mk x990 0 s1172)))))))))).bind fun (o1087:Ctl _ (Unit))=>match o1087 with
  | .ret r=>some r
  | .go _=>none
  | .brk s1086=>
  some (Ctl.go ()))) 0 r3 ()).bind fun (o982:Ctl _ (Unit))=>match o982 with
  | .ret r=>some r
  | .go _=>none
  | .brk s993=>
  some ((Q3.mk 0 0 [])))))
def Q0i:Nat→(List Q4)→(List Int)→Q1→Q0→Option (Q3)
 | 0,_,_,_,_=>none
 | n+1,p0,p1,p2,p3=>
  (((if (ieq p3.op 1)=true then
  some (Ctl.brk (ieq p3.op 1))
  else
  some (Ctl.brk (ieq p3.op 2)))).bind fun (o33:Ctl _ (Bool))=>match o33 with
  | .ret r=>some r
  | .go _=>none
  | .brk s32=>
  (if s32=true then
  ((Q50 n p0 p1 p2).bind fun r38=>
  some (r38))
  else
  (if (ieq p3.op 3)=true then
  some ((Q3.mk (-1) p3.n []))
  else
  (if (ieq p3.op 6)=true then
  ((idx p3.kids 0).bind fun x42=>
  ((Q0i n p0 p1 p2 x42).bind fun r43=>
  some (r43)))
  else
  (if (ieq p3.op 5)=true then
  ((idx p3.kids 0).bind fun x52=>
  ((Q13 n p0 p1 p2 x52).bind fun r53=>
  (if r53=true then
  ((Q0i n p0 p1 p2 x52).bind fun r55=>
  some (r55))
  else
  ((idx p3.kids 1).bind fun x57=>
  ((Q0i n p0 p1 p2 x57).bind fun r58=>
  some (r58))))))
  else
  ((J4 p0 p2 p3.ctor).bind fun r61=>
  ((forL (fun k141 x142 (s135:(List Q3))=>
  ((idx p3.kids (k141:Int)).bind fun x150=>
  ((Q0i n p0 p1 x142 x150).bind fun r151=>
  ((app s135 [r151]).bind fun x152=>
  some (Ctl.go x152))))) 0 r61 []).bind fun (o134:Ctl _ ((List Q3)))=>match o134 with
  | .ret r=>some r
  | .go _=>none
  | .brk s145=>
  some ((Q3.mk p3.ctor 0 s145)))))))))
def Q1n (n:Nat)(p0:(List Q4))(p1:Q1)(p2:Q0):Option (Q3×Bool):=
  ((Q20 n p0 p1 p2).bind fun r69=>
  (if (!r69)=true then
  some (((Q3.mk 0 0 []),false))
  else
  ((Q4m n p0 p1 p2).bind fun r72=>
  (if r72=true then
  some (((Q3.mk 0 0 []),false))
  else
  ((Q12 n p0).bind fun r76=>
  ((Q4c n p0 r76 p1 p2).bind fun r77=>
  (if (!r77)=true then
  some (((Q3.mk 0 0 []),false))
  else
  ((Q12 n p0).bind fun r79=>
  ((Q0i n p0 r79 p1 p2).bind fun r80=>
  ((Q85 n p0 p1 r80).bind fun r84=>
  (if (!r84)=true then
  some (((Q3.mk 0 0 []),false))
  else
  some ((r80,true)))))))))))))
def Q37 (n:Nat)(p0:(List Q4))(p1:Q1)(p2:(List Q5))(p3:Int):Option (Q3×Bool):=
  ((Q1w n p0 p1 p2 p3).bind fun r1=>
  ((forL (fun k163 x164 (s157:Unit)=>
  (if r1.2=true then
  ((((Q1n n p0 p1 x164).bind fun r181=>
  (if (!r181.2)=true then
  some (Ctl.brk ())
  else
  ((Q58 n p2 r181.1).bind fun r184=>
  (if (ieq r184.1 p3)=true then
  some (Ctl.ret (Ctl.ret ((r181.1,true))))
  else
  some (Ctl.brk ())))))).bind fun (o178:Ctl _ (Unit))=>match o178 with
  | .ret r=>some r
  | .go _=>none
  | .brk s177=>
  some (Ctl.go ()))
  else
  some (Ctl.brk ()))) 0 r1.1 ()).bind fun (o156:Ctl _ (Unit))=>match o156 with
  | .ret r=>some r
  | .go _=>none
  | .brk s167=>
  some (((Q3.mk 0 0 []),false))))
def Q5a (p0:(List Int))(p1:Int):Option (Bool):=
  ((forL (fun k48 x49 (s42:Unit)=>
  (if (ieq x49 p1)=true then
  some (Ctl.ret (true))
  else
  some (Ctl.go ()))) 0 p0 ()).bind fun (o41:Ctl _ (Unit))=>match o41 with
  | .ret r=>some r
  | .go _=>none
  | .brk s52=>
  some (false))
def Q0j (n:Nat)(p0:(List Int)):Option ((List Q4)×Q1×(List Q5)):=
  ((W9 n p0).bind fun r1=>
  some ((r1.1,r1.2.1,r1.2.2)))
def Q1y (n:Nat)(p0:(List Q4))(p1:Q1)(p2:(List Q5)):Option ((List Q0)×Bool):=
  ((J2 n p0 p1 p2).bind fun r4=>
  (if (!r4)=true then
  some (([],false))
  else
  ((Q45 n p2).bind fun r6=>
  (if (!r6.2)=true then
  some (([],false))
  else
  ((Q2g n p0).bind fun r9=>
  ((Q1e).bind fun r10=>
  ((Q0k n r9 p1 [r10] r6.1).bind fun r11=>
  ((Q1p n r9 p1 r11.1 r11.2).bind fun r12=>
  some ((r12.1,r12.2))))))))))
def Q2z (n:Nat)(p0:(List Q4))(p1:Q1)(p2:(List Q5)):Option (Q3×Bool):=
  ((Q1y n p0 p1 p2).bind fun r1=>
  (if (!r1.2)=true then
  some (((Q3.mk 0 0 []),false))
  else
  (if (ieq (lenZ r1.1.length) 0)=true then
  some (((Q3.mk 0 0 []),false))
  else
  ((idx r1.1 0).bind fun x12=>
  ((Q1q n p0 p1 x12).bind fun r13=>
  some ((r13.1,r13.2)))))))
def Q1g (n:Nat)(p0:(List Q4))(p1:Q1)(p2:(List Q5)):Option ((List Q3)×Bool):=
  ((J2 n p0 p1 p2).bind fun r4=>
  (if (!r4)=true then
  some (([],false))
  else
  ((forL (fun k97 x98 (s91:(List Q3))=>
  ((((Q03 n p0 p1 p2 (k97:Int)).bind fun r110=>
  (if r110.2=true then
  ((app s91 [r110.1]).bind fun x112=>
  some (Ctl.brk x112))
  else
  some (Ctl.brk s91)))).bind fun (o107:Ctl _ ((List Q3)))=>match o107 with
  | .ret r=>some r
  | .go _=>none
  | .brk s106=>
  some (Ctl.go s106))) 0 p2 []).bind fun (o90:Ctl _ ((List Q3)))=>match o90 with
  | .ret r=>some r
  | .go _=>none
  | .brk s101=>
  ((((Q2z n p0 p1 p2).bind fun r125=>
  (if r125.2=true then
  ((Q5s n p2 r125.1).bind fun r127=>
  (if (ilt r127.1 0)=true then
  ((app s101 [r125.1]).bind fun x129=>
  some (Ctl.brk x129))
  else
  some (Ctl.brk s101)))
  else
  some (Ctl.brk s101)))).bind fun (o122:Ctl _ ((List Q3)))=>match o122 with
  | .ret r=>some r
  | .go _=>none
  | .brk s121=>
  some ((s121,true))))))
def Q1x (n:Nat)(p0:(List Q4))(p1:Q1)(p2:(List Q5)):Option ((List Q0)×Bool):=
  ((Q01 n p0 p1 p2).bind fun r4=>
  (if (!r4)=true then
  some (([],false))
  else
  ((Q4d).bind fun r6=>
  ((Q5n n p0 p1 [r6] p2 (lenZ p2.length)).bind fun r7=>
  some ((r7.1,r7.2))))))
def Q2v (n:Nat)(p0:(List Q4))(p1:Q1)(p2:(List Q5)):Option (Q3×Bool):=
  ((Q1x n p0 p1 p2).bind fun r1=>
  (if (!r1.2)=true then
  some (((Q3.mk 0 0 []),false))
  else
  (if (ieq (lenZ r1.1.length) 0)=true then
  some (((Q3.mk 0 0 []),false))
  else
  ((idx r1.1 0).bind fun x12=>
  ((Q1n n p0 p1 x12).bind fun r13=>
  some ((r13.1,r13.2)))))))
def Q1a (n:Nat)(p0:(List Q4))(p1:Q1)(p2:(List Q5)):Option ((List Q3)×Bool):=
  ((Q01 n p0 p1 p2).bind fun r4=>
  (if (!r4)=true then
  some (([],false))
  else
  ((forL (fun k97 x98 (s91:(List Q3))=>
  ((((Q37 n p0 p1 p2 (k97:Int)).bind fun r110=>
  (if r110.2=true then
  ((app s91 [r110.1]).bind fun x112=>
  some (Ctl.brk x112))
  else
  some (Ctl.brk s91)))).bind fun (o107:Ctl _ ((List Q3)))=>match o107 with
  | .ret r=>some r
  | .go _=>none
  | .brk s106=>
  some (Ctl.go s106))) 0 p2 []).bind fun (o90:Ctl _ ((List Q3)))=>match o90 with
  | .ret r=>some r
  | .go _=>none
  | .brk s101=>
  ((Q2v n p0 p1 p2).bind fun r114=>
  (((if r114.2=true then
  ((Q58 n p2 r114.1).bind fun r125=>
  (if (ilt r125.1 0)=true then
  ((app s101 [r114.1]).bind fun x127=>
  some (Ctl.brk x127))
  else
  some (Ctl.brk s101)))
  else
  some (Ctl.brk s101))).bind fun (o121:Ctl _ ((List Q3)))=>match o121 with
  | .ret r=>some r
  | .go _=>none
  | .brk s120=>
  some ((s120,true)))))))
def Q0l (n:Nat)(p0:(List Q4))(p1:Q1)(p2:(List Q5))(p3:(List Q3)):Option ((List Int)):=
  ((J2 n p0 p1 p2).bind fun r4=>
  (if (!r4)=true then
  some ([])
  else
  ((forL (fun k165 x166 (s159:(List Bool))=>
  ((((Q25 n p0 p1 x166).bind fun r187=>
  (if (!r187)=true then
  some (Ctl.ret (Ctl.ret ([])))
  else
  ((Q5s n p2 x166).bind fun r189=>
  (if (ile 0 r189.1)=true then
  ((aset 8 s159 r189.1 true).bind fun x191=>
  some (Ctl.brk x191))
  else
  some (Ctl.brk s159)))))).bind fun (o181:Ctl _ ((List Bool)))=>match o181 with
  | .ret r=>some r
  | .go _=>none
  | .brk s180=>
  some (Ctl.go s180))) 0 p3 [false,false,false,false,false,false,false,false]).bind fun (o158:Ctl _ ((List Bool)))=>match o158 with
  | .ret r=>some r
  | .go _=>none
  | .brk s169=>
  ((chk (decide (s169.length=8))).bind fun x245=>
  ((whileL (fun (s273:(List Int)×Int)=>
  (if (ilt s273.2 8)=true then
  ((((aget 8 s169 s273.2).bind fun x293=>
  (if x293=true then
  ((app s273.1 [s273.2]).bind fun x295=>
  some (Ctl.brk x295))
  else
  some (Ctl.brk s273.1)))).bind fun (o290:Ctl _ ((List Int)))=>match o290 with
  | .ret r=>some r
  | .go _=>none
  | .brk s289=>
  some (Ctl.go (s289,wadd .i64 s273.2 1)))
  else
  some (Ctl.brk (s273.1,s273.2)))) n ([],0)).bind fun (o272:Ctl _ ((List Int)×Int))=>match o272 with
  | .ret r=>some r
  | .go _=>none
  | .brk s283=>
  some (s283.1))))))
end Go.Proofs.YtfhpjeogjcfkaaaGreat
