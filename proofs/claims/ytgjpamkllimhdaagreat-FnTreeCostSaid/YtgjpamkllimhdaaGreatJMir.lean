import Derived.Test.YtgjpamkllimhdaaGreatJDat
set_option linter.unusedSimpArgs false
set_option linter.unusedVariables false
namespace Go.Proofs.YtgjpamkllimhdaaGreat
open Go Go.RowKit
def Z7 (p0:Z9)(p1:Int):Option (Int×Z9):=
  (if (ilt p1 1)=true then
  some ((0,(Z9.mk p0.b (wadd .i64 p0.p 1))))
  else
  (if (ieq (lenZ p0.b.length) 0)=true then
  some ((0,(Z9.mk p0.b (wadd .i64 p0.p 1))))
  else
  (if (ilt (wsub .i64 (wadd .i64 p0.p 1) 1) (lenZ p0.b.length))=true then
  ((idx p0.b (wsub .i64 (wadd .i64 p0.p 1) 1)).bind fun x15=>
  ((chk (!ieq p1 0)).bind fun x16=>
  some ((wrem (wcv .i64 x15) p1,(Z9.mk p0.b (wadd .i64 p0.p 1))))))
  else
  ((chk (!ieq (lenZ p0.b.length) 0)).bind fun x17=>
  ((idx p0.b (wrem (wsub .i64 (wadd .i64 p0.p 1) 1) (lenZ p0.b.length))).bind fun x18=>
  ((idx p0.b (wrem (wadd .i64 (wmul .i64 (wsub .i64 (wadd .i64 p0.p 1) 1) 7) 3) (lenZ p0.b.length))).bind fun x19=>
  ((chk (!ieq p1 0)).bind fun x20=>
  some ((wrem (wxor .i64 (wadd .i64 (wadd .i64 (wadd .i64 (wmul .i64 (wcv .i64 x18) 131) (wmul .i64 (wcv .i64 x19) 1117)) (wmul .i64 (wsub .i64 (wadd .i64 p0.p 1) 1) 29)) (wmul .i64 (wquo .i64 (wsub .i64 (wadd .i64 p0.p 1) 1) (lenZ p0.b.length)) 53)) (wquo .i64 (wadd .i64 (wadd .i64 (wadd .i64 (wmul .i64 (wcv .i64 x18) 131) (wmul .i64 (wcv .i64 x19) 1117)) (wmul .i64 (wsub .i64 (wadd .i64 p0.p 1) 1) 29)) (wmul .i64 (wquo .i64 (wsub .i64 (wadd .i64 p0.p 1) 1) (lenZ p0.b.length)) 53)) 64)) p1,(Z9.mk p0.b (wadd .i64 p0.p 1)))))))))))
def X8 (p0:Z9)(p1:(List Int)):Option (Int×Z9):=
  ((Z7 p0 (lenZ p1.length)).bind fun r1=>
  ((idx p1 r1.1).bind fun x2=>
  some ((x2,r1.2))))
def Q4k (p0:Z9)(p1:Q0):Option (Q0×Z9):=
  ((app [] p1.kids).bind fun x1=>
  ((((Z7 p0 30).bind fun r26=>
  (if (ieq r26.1 0)=true then
  ((X8 r26.2 [0,7,1,2,5]).bind fun r28=>
  some (Ctl.brk (r28.2,r28.1,p1.ctor,p1.n,p1.var,p1.kids)))
  else
  (if (ieq r26.1 1)=true then
  ((X8 r26.2 [6,(-1),1]).bind fun r31=>
  some (Ctl.brk (r31.2,p1.op,p1.ctor,p1.n,r31.1,p1.kids)))
  else
  (if (ieq r26.1 2)=true then
  ((X8 r26.2 [9,(-1),1]).bind fun r34=>
  some (Ctl.brk (r34.2,p1.op,r34.1,p1.n,p1.var,p1.kids)))
  else
  (if (ieq r26.1 3)=true then
  ((app p1.kids [(Q0.mk 2 0 0 0 0 [])]).bind fun x37=>
  some (Ctl.brk (r26.2,p1.op,p1.ctor,p1.n,p1.var,(p1.kids++[(Q0.mk 2 0 0 0 0 [])]))))
  else
  (if (ieq r26.1 4)=true then
  (if (ilt 0 (lenZ p1.kids.length))=true then
  ((idx p1.kids 0).bind fun x40=>
  ((setI p1.kids 0 (Q0.mk 2 0 0 0 0 [])).bind fun x41=>
  some (Ctl.brk (r26.2,p1.op,p1.ctor,p1.n,p1.var,x41))))
  else
  some (Ctl.brk (r26.2,p1.op,p1.ctor,p1.n,p1.var,p1.kids)))
  else
  (if (ieq r26.1 5)=true then
  ((X8 r26.2 [10,(-1),5]).bind fun r43=>
  some (Ctl.brk (r43.2,p1.op,p1.ctor,r43.1,p1.var,p1.kids)))
  else
  some (Ctl.brk (r26.2,p1.op,p1.ctor,p1.n,p1.var,p1.kids)))))))))).bind fun (o23:Ctl _ (Z9×Int×Int×Int×Int×(List Q0)))=>match o23 with
  | .ret r=>some r
  | .go _=>none
  | .brk s22=>
  some (((Q0.mk s22.2.1 s22.2.2.1 s22.2.2.2.1 p1.m s22.2.2.2.2.1 s22.2.2.2.2.2),s22.1))))
def Q4i (n:Nat)(p0:Z9)(p1:(List Q3)):Option ((List Q3)×Z9):=
  ((app [] p1).bind fun x1=>
  ((((Z7 p0 24).bind fun r49=>
  (if (ieq r49.1 0)=true then
  (if (ilt 0 (lenZ p1.length))=true then
  ((X8 r49.2 [1,2,3,(-1)]).bind fun r52=>
  ((X8 r52.2 [0,5,9]).bind fun r53=>
  ((X8 r53.2 [3,10,(-1)]).bind fun r54=>
  ((idx p1 0).bind fun x55=>
  ((setI p1 0 (Q3.mk x55.pat (Q37.mk r52.1 r53.1 r54.1))).bind fun x56=>
  some (Ctl.brk (r54.2,x56)))))))
  else
  some (Ctl.brk (r49.2,p1)))
  else
  (if (ieq r49.1 1)=true then
  (if (ilt 0 (lenZ p1.length))=true then
  ((idx p1 0).bind fun x62=>
  ((Q4k r49.2 x62.pat).bind fun r63=>
  ((Q4k r63.2 r63.1).bind fun r64=>
  ((setI p1 0 (Q3.mk r64.1 x62.guard)).bind fun x65=>
  some (Ctl.brk (r64.2,x65))))))
  else
  some (Ctl.brk (r49.2,p1)))
  else
  (if (ieq r49.1 2)=true then
  ((whileL (fun (s77:(List Q3))=>
  (if (ile (lenZ s77.length) 8)=true then
  ((app s77 [(Q3.mk (Q0.mk 1 0 0 0 0 []) (Q37.mk 0 0 0))]).bind fun x90=>
  some (Ctl.go (s77++[(Q3.mk (Q0.mk 1 0 0 0 0 []) (Q37.mk 0 0 0))])))
  else
  some (Ctl.brk s77))) n p1).bind fun (o76:Ctl _ ((List Q3)))=>match o76 with
  | .ret r=>some r
  | .go _=>none
  | .brk s87=>
  some (Ctl.brk (r49.2,s87)))
  else
  some (Ctl.brk (r49.2,p1))))))).bind fun (o46:Ctl _ (Z9×(List Q3)))=>match o46 with
  | .ret r=>some r
  | .go _=>none
  | .brk s45=>
  some ((s45.2,s45.1))))
def Q5h  : Option ((List ByteArray)):=
  some ([(ByteArray.mk #[76,61,78,105,108,124,67,111,110,115,40,73,44,76,41]),(ByteArray.mk #[66,61,84,114,117,124,70,108,115,59,84,61,76,101,97,102,124,78,111,100,101,40,84,44,66,44,84,41]),(ByteArray.mk #[69,61,78,117,109,40,73,41,58,49,124,66,111,108,40,66,41,58,50,124,65,100,100,40,69,49,44,69,49,41,58,49,124,73,102,40,69,50,44,69,42,44,69,42,41,59,66,61,84,114,117,124,70,108,115]),(ByteArray.mk #[79,61,78,111,110,124,83,111,109,40,73,41,59,80,61,80,97,105,114,40,79,44,79,41]),(ByteArray.mk #[86,61,69,110,100,58,49,124,83,111,109,101,40,73,44,86,49,41,58,50,124,84,119,111,40,86,42,41]),(ByteArray.mk #[78,61,78,101,118,101,114,40,78,41,59,66,61,84,114,117,124,70,108,115,124,77,97,121,40,78,41]),(ByteArray.mk #[83,61,82,101,100,124,71,114,101,101,110,124,66,108,117,101,124,77,105,120,40,83,44,83,41]),(ByteArray.mk #[])])
def Q9v (p0:Int):Option (Bool):=
  (if (ile 65 p0)=true then
  some (ile p0 90)
  else
  some (false))
def Z18 (p0:ByteArray):Option (Bool):=
  (if (ieq (lenZ p0.size) 1)=true then
  ((sidx p0 0).bind fun x8=>
  ((Q9v x8).bind fun r9=>
  (if r9=true then
  some (!seq2 p0 (ByteArray.mk #[73]))
  else
  some (false))))
  else
  some (false))
def Q9w (p0:Int)(p1:Q6):Option (Bool):=
  (if (ieq p1.data (-1))=true then
  some (ieq p1.index 0)
  else
  (if (ile 0 p1.data)=true then
  (if (ilt p1.data p0)=true then
  (if (ile (-1) p1.index)=true then
  some (ile p1.index 3)
  else
  some (false))
  else
  some (false))
  else
  some (false)))
def Q8k (n:Nat)(p0:ByteArray):Option (Bool):=
  (if (ieq (lenZ p0.size) 0)=true then
  some (false)
  else
  (if (ilt 5 (lenZ p0.size))=true then
  some (false)
  else
  ((sidx p0 0).bind fun x31=>
  ((Q9v x31).bind fun r32=>
  (if (!r32)=true then
  some (false)
  else
  ((whileL (fun (s139:Int)=>
  (if (ilt s139 (lenZ p0.size))=true then
  ((sidx p0 s139).bind fun x165=>
  (if (ilt x165 97)=true then
  some (Ctl.ret (false))
  else
  (if (ilt 122 x165)=true then
  some (Ctl.ret (false))
  else
  some (Ctl.go (wadd .i64 s139 1)))))
  else
  some (Ctl.brk s139))) n 1).bind fun (o138:Ctl _ (Int))=>match o138 with
  | .ret r=>some r
  | .go _=>none
  | .brk s149=>
  some (true)))))))
def Z19 (n:Nat)(p0:Int)(p1:Q8g):Option (Bool):=
  ((Q8k n p1.name).bind fun r44=>
  (if (!r44)=true then
  some (false)
  else
  (if (ilt 3 (lenZ p1.args.length))=true then
  some (false)
  else
  (if (ilt p1.index 0)=true then
  some (false)
  else
  (if (ilt 3 p1.index)=true then
  some (false)
  else
  ((forL (fun k119 x120 (s113:Unit)=>
  ((Q9w p0 x120).bind fun r127=>
  (if (!r127)=true then
  some (Ctl.ret (false))
  else
  some (Ctl.go ())))) 0 p1.args ()).bind fun (o112:Ctl _ (Unit))=>match o112 with
  | .ret r=>some r
  | .go _=>none
  | .brk s123=>
  some (true)))))))
def Z04 (n:Nat)(p0:(List Q4))(p1:Int)(p2:Int):Option (Bool):=
  ((whileL (fun (s3156:Int)=>
  (if (ile s3156 p1)=true then
  (((if (ilt s3156 p1)=true then
  ((idx p0 s3156).bind fun x3505=>
  ((idx p0 p1).bind fun x3506=>
  (if (seq2 x3505.name x3506.name)=true then
  some (Ctl.ret (Ctl.ret (true)))
  else
  some (Ctl.brk ()))))
  else
  some (Ctl.brk ()))).bind fun (o3494:Ctl _ (Unit))=>match o3494 with
  | .ret r=>some r
  | .go _=>none
  | .brk s3493=>
  ((idx p0 s3156).bind fun x3637=>
  ((forL (fun k3750 x3751 (s3744:Unit)=>
  (((if (ilt s3156 p1)=true then
  some (Ctl.brk ())
  else
  (if (ilt (k3750:Int) p2)=true then
  some (Ctl.brk ())
  else
  some (Ctl.ret (Ctl.brk ()))))).bind fun (o3761:Ctl _ (Unit))=>match o3761 with
  | .ret r=>some r
  | .go _=>none
  | .brk s3760=>
  ((((idx p0 p1).bind fun x3791=>
  (if (ilt p2 (lenZ x3791.ctors.length))=true then
  ((idx x3791.ctors p2).bind fun x3793=>
  (if (seq2 x3751.name x3793.name)=true then
  some (Ctl.ret (Ctl.ret (Ctl.ret (true))))
  else
  some (Ctl.brk ())))
  else
  some (Ctl.brk ())))).bind fun (o3781:Ctl _ (Unit))=>match o3781 with
  | .ret r=>some r
  | .go _=>none
  | .brk s3780=>
  some (Ctl.go ())))) 0 x3637.ctors ()).bind fun (o3743:Ctl _ (Unit))=>match o3743 with
  | .ret r=>some r
  | .go _=>none
  | .brk s3754=>
  some (Ctl.go (wadd .i64 s3156 1)))))
  else
  some (Ctl.brk s3156))) n 0).bind fun (o3155:Ctl _ (Int))=>match o3155 with
  | .ret r=>some r
  | .go _=>none
  | .brk s3166=>
  some (false))
def Q2w (n:Nat)(p0:(List Q4)):Option (Bool):=
  (if (ilt 4 (lenZ p0.length))=true then
  some (false)
  else
  ((forL (fun k1970 x1971 (s1964:Unit)=>
  ((Z18 x1971.name).bind fun r2197=>
  (if (!r2197)=true then
  some (Ctl.ret (false))
  else
  (if (ieq (lenZ x1971.ctors.length) 0)=true then
  some (Ctl.ret (false))
  else
  (if (ilt 4 (lenZ x1971.ctors.length))=true then
  some (Ctl.ret (false))
  else
  ((forL (fun k2307 x2308 (s2301:Unit)=>
  ((Z19 n (lenZ p0.length) x2308).bind fun r2345=>
  (if (!r2345)=true then
  some (Ctl.ret (Ctl.ret (false)))
  else
  ((Z04 n p0 (k1970:Int) (k2307:Int)).bind fun r2348=>
  (if r2348=true then
  some (Ctl.ret (Ctl.ret (false)))
  else
  some (Ctl.go ())))))) 0 x1971.ctors ()).bind fun (o2300:Ctl _ (Unit))=>match o2300 with
  | .ret r=>some r
  | .go _=>none
  | .brk s2311=>
  some (Ctl.go ()))))))) 0 p0 ()).bind fun (o1963:Ctl _ (Unit))=>match o1963 with
  | .ret r=>some r
  | .go _=>none
  | .brk s1974=>
  some (true)))
def Q3r (n:Nat)(p0:ByteArray)(p1:Int):Option ((List ByteArray)):=
  ((whileL (fun (s210:(List ByteArray)×Int×Int)=>
  (if (ile s210.2.2 (lenZ p0.size))=true then
  (((if (ieq s210.2.2 (lenZ p0.size))=true then
  ((ssub p0 s210.2.1 s210.2.2).bind fun x253=>
  ((app s210.1 [x253]).bind fun x254=>
  some (Ctl.brk (x254,wadd .i64 s210.2.2 1))))
  else
  ((sidx p0 s210.2.2).bind fun x255=>
  (if (ieq x255 p1)=true then
  ((ssub p0 s210.2.1 s210.2.2).bind fun x257=>
  ((app s210.1 [x257]).bind fun x258=>
  some (Ctl.brk (x258,wadd .i64 s210.2.2 1))))
  else
  some (Ctl.brk (s210.1,s210.2.1)))))).bind fun (o240:Ctl _ ((List ByteArray)×Int))=>match o240 with
  | .ret r=>some r
  | .go _=>none
  | .brk s239=>
  some (Ctl.go (s239.1,s239.2,wadd .i64 s210.2.2 1)))
  else
  some (Ctl.brk (s210.1,s210.2.1,s210.2.2)))) n ([],0,0)).bind fun (o209:Ctl _ ((List ByteArray)×Int×Int))=>match o209 with
  | .ret r=>some r
  | .go _=>none
  | .brk s220=>
  some (s220.1))
def Z17 (p0:(List ByteArray))(p1:ByteArray):Option (Int):=
  (if (seq2 p1 (ByteArray.mk #[73]))=true then
  some ((-1))
  else
  ((forL (fun k50 x51 (s44:Unit)=>
  (if (seq2 x51 p1)=true then
  some (Ctl.ret ((k50:Int)))
  else
  some (Ctl.go ()))) 0 p0 ()).bind fun (o43:Ctl _ (Unit))=>match o43 with
  | .ret r=>some r
  | .go _=>none
  | .brk s54=>
  some ((-2))))
def Q7i (p0:(List ByteArray))(p1:ByteArray):Option (Q6):=
  (if (seq2 p1 (ByteArray.mk #[]))=true then
  some ((Q6.mk (-2) 0))
  else
  ((ssub p1 0 1).bind fun x3=>
  ((Z17 p0 x3).bind fun r4=>
  ((((ssub p1 1 (p1.size:Int)).bind fun x22=>
  (if (seq2 x22 (ByteArray.mk #[42]))=true then
  some (Ctl.brk (-1))
  else
  (if (ieq (lenZ p1.size) 2)=true then
  ((sidx p1 1).bind fun x32=>
  (if (ile 48 x32)=true then
  (if (ile x32 57)=true then
  some (Ctl.brk (wcv .i64 (wsub .u8 x32 48)))
  else
  some (Ctl.brk 0))
  else
  some (Ctl.brk 0)))
  else
  some (Ctl.brk 0))))).bind fun (o19:Ctl _ (Int))=>match o19 with
  | .ret r=>some r
  | .go _=>none
  | .brk s18=>
  some ((Q6.mk r4 s18))))))
def Q7j (n:Nat)(p0:(List ByteArray))(p1:ByteArray):Option (Q8g):=
  (((if (ilt 2 (lenZ p1.size))=true then
  ((sidx p1 (wsub .i64 (lenZ p1.size) 2)).bind fun x25=>
  (if (ieq x25 58)=true then
  ((sidx p1 (wsub .i64 (lenZ p1.size) 1)).bind fun x27=>
  ((ssub p1 0 (wsub .i64 (lenZ p1.size) 2)).bind fun x28=>
  some (Ctl.brk (x28,wsub .i64 (wcv .i64 x27) 48))))
  else
  some (Ctl.brk (p1,0))))
  else
  some (Ctl.brk (p1,0)))).bind fun (o14:Ctl _ (ByteArray×Int))=>match o14 with
  | .ret r=>some r
  | .go _=>none
  | .brk s13=>
  ((Q3r n s13.1 40).bind fun r29=>
  ((idx r29 0).bind fun x30=>
  (if (ilt (lenZ r29.length) 2)=true then
  some ((Q8g.mk x30 [] s13.2))
  else
  ((idx r29 1).bind fun x45=>
  (if (ieq (lenZ x45.size) 0)=true then
  some ((Q8g.mk x30 [] s13.2))
  else
  ((ssub x45 0 (wsub .i64 (lenZ x45.size) 1)).bind fun x47=>
  ((Q3r n x47 44).bind fun r48=>
  ((forL (fun k152 x153 (s146:(List Q6))=>
  (if (ile (k152:Int) 3)=true then
  ((Q7i p0 x153).bind fun r162=>
  ((app s146 [r162]).bind fun x163=>
  some (Ctl.go x163)))
  else
  some (Ctl.brk s146))) 0 r48 []).bind fun (o145:Ctl _ ((List Q6)))=>match o145 with
  | .ret r=>some r
  | .go _=>none
  | .brk s156=>
  some ((Q8g.mk x30 s156 s13.2)))))))))))
def Q7k:Nat→Int→Option (ByteArray)
 | 0,_=>none
 | n+1,p0=>
  (if (ilt p0 (-9223372036854775807))=true then
  some ((ByteArray.mk #[45,57,50,50,51,51,55,50,48,51,54,56,53,52,55,55,53,56,48,56]))
  else
  (if (ilt p0 0)=true then
  ((Q7k n (wneg .i64 p0)).bind fun r8=>
  ((scat (ByteArray.mk #[45]) r8).bind fun x9=>
  some (x9)))
  else
  ((whileL (fun (s20:Int×ByteArray)=>
  (if (ilt 9 s20.1)=true then
  ((scat (bstr [wcv .u8 (wadd .i64 48 (wrem s20.1 10))]) s20.2).bind fun x33=>
  some (Ctl.go (wquo .i64 s20.1 10,x33)))
  else
  some (Ctl.brk (s20.1,s20.2)))) n (p0,(ByteArray.mk #[]))).bind fun (o19:Ctl _ (Int×ByteArray))=>match o19 with
  | .ret r=>some r
  | .go _=>none
  | .brk s30=>
  ((scat (bstr [wcv .u8 (wadd .i64 48 s30.1)]) s30.2).bind fun x34=>
  some (x34)))))
def Z05 (n:Nat)(p0:Int):Option (ByteArray):=
  (if (ieq p0 0)=true then
  some ((ByteArray.mk #[]))
  else
  (if (ieq p0 (-1))=true then
  some ((ByteArray.mk #[42]))
  else
  ((Q7k n p0).bind fun r5=>
  some (r5))))
def Z13 (n:Nat)(p0:(List Q4))(p1:Q6):Option (ByteArray):=
  (if (ieq p1.data (-1))=true then
  some ((ByteArray.mk #[73]))
  else
  ((idx p0 p1.data).bind fun x3=>
  ((Z05 n p1.index).bind fun r4=>
  ((scat x3.name r4).bind fun x5=>
  some (x5)))))
def Q7z (n:Nat)(p0:(List Q4))(p1:Q8g):Option (ByteArray):=
  ((forL (fun k170 x171 (s164:ByteArray)=>
  (((if (ieq (k170:Int) 0)=true then
  ((scat s164 (ByteArray.mk #[40])).bind fun x196=>
  some (Ctl.brk x196))
  else
  ((scat s164 (ByteArray.mk #[44])).bind fun x197=>
  some (Ctl.brk x197)))).bind fun (o192:Ctl _ (ByteArray))=>match o192 with
  | .ret r=>some r
  | .go _=>none
  | .brk s191=>
  ((Z13 n p0 x171).bind fun r198=>
  ((scat s191 r198).bind fun x199=>
  some (Ctl.go x199))))) 0 p1.args p1.name).bind fun (o163:Ctl _ (ByteArray))=>match o163 with
  | .ret r=>some r
  | .go _=>none
  | .brk s174=>
  (((if (ilt 0 (lenZ p1.args.length))=true then
  ((scat s174 (ByteArray.mk #[41])).bind fun x208=>
  some (Ctl.brk x208))
  else
  some (Ctl.brk s174))).bind fun (o204:Ctl _ (ByteArray))=>match o204 with
  | .ret r=>some r
  | .go _=>none
  | .brk s203=>
  (((if (ilt 0 p1.index)=true then
  ((scat s203 (ByteArray.mk #[58])).bind fun x219=>
  ((Q7k n p1.index).bind fun r220=>
  ((scat x219 r220).bind fun x221=>
  some (Ctl.brk x221))))
  else
  some (Ctl.brk s203))).bind fun (o215:Ctl _ (ByteArray))=>match o215 with
  | .ret r=>some r
  | .go _=>none
  | .brk s214=>
  some (s214))))
def Z14 (n:Nat)(p0:(List Q4)):Option (ByteArray):=
  ((forL (fun k1020 x1021 (s1014:ByteArray)=>
  (((if (ilt 0 (k1020:Int))=true then
  ((scat s1014 (ByteArray.mk #[59])).bind fun x1130=>
  some (Ctl.brk x1130))
  else
  some (Ctl.brk s1014))).bind fun (o1126:Ctl _ (ByteArray))=>match o1126 with
  | .ret r=>some r
  | .go _=>none
  | .brk s1125=>
  ((scat s1125 x1021.name).bind fun x1131=>
  ((scat x1131 (ByteArray.mk #[61])).bind fun x1132=>
  ((forL (fun k1194 x1195 (s1188:ByteArray)=>
  (((if (ilt 0 (k1194:Int))=true then
  ((scat s1188 (ByteArray.mk #[124])).bind fun x1217=>
  some (Ctl.brk x1217))
  else
  some (Ctl.brk s1188))).bind fun (o1213:Ctl _ (ByteArray))=>match o1213 with
  | .ret r=>some r
  | .go _=>none
  | .brk s1212=>
  ((Q7z n p0 x1195).bind fun r1218=>
  ((scat s1212 r1218).bind fun x1219=>
  some (Ctl.go x1219))))) 0 x1021.ctors x1132).bind fun (o1187:Ctl _ (ByteArray))=>match o1187 with
  | .ret r=>some r
  | .go _=>none
  | .brk s1198=>
  some (Ctl.go s1198)))))) 0 p0 (ByteArray.mk #[])).bind fun (o1013:Ctl _ (ByteArray))=>match o1013 with
  | .ret r=>some r
  | .go _=>none
  | .brk s1024=>
  some (s1024))
def Q64 (n:Nat)(p0:ByteArray):Option ((List Q4)×Bool):=
  ((Q3r n p0 59).bind fun r1=>
  ((forL (fun k167 x168 (s161:(List ByteArray))=>
  (if (ile (k167:Int) 4)=true then
  (if (!seq2 p0 (ByteArray.mk #[]))=true then
  ((Q3r n x168 61).bind fun r188=>
  (if (!ieq (lenZ r188.length) 2)=true then
  some (Ctl.ret (([],false)))
  else
  ((idx r188 0).bind fun x191=>
  ((app s161 [x191]).bind fun x192=>
  some (Ctl.go x192)))))
  else
  some (Ctl.brk s161))
  else
  some (Ctl.brk s161))) 0 r1 []).bind fun (o160:Ctl _ ((List ByteArray)))=>match o160 with
  | .ret r=>some r
  | .go _=>none
  | .brk s171=>
  ((forL (fun k1463 x1464 (s1457:(List Q4))=>
  ((idx r1 (k1463:Int)).bind fun x1591=>
  ((Q3r n x1591 61).bind fun r1592=>
  ((idx r1592 1).bind fun x1593=>
  ((Q3r n x1593 124).bind fun r1594=>
  ((forL (fun k1698 x1699 (s1692:(List Q8g))=>
  (if (ile (k1698:Int) 4)=true then
  ((Q7j n s171 x1699).bind fun r1708=>
  ((app s1692 [r1708]).bind fun x1709=>
  some (Ctl.go x1709)))
  else
  some (Ctl.brk s1692))) 0 r1594 []).bind fun (o1691:Ctl _ ((List Q8g)))=>match o1691 with
  | .ret r=>some r
  | .go _=>none
  | .brk s1702=>
  ((app s1457 [(Q4.mk x1464 s1702)]).bind fun x1711=>
  some (Ctl.go (s1457++[(Q4.mk x1464 s1702)]))))))))) 0 s171 []).bind fun (o1456:Ctl _ ((List Q4)))=>match o1456 with
  | .ret r=>some r
  | .go _=>none
  | .brk s1467=>
  ((Q2w n s1467).bind fun r1747=>
  (if (!r1747)=true then
  some (([],false))
  else
  ((Z14 n s1467).bind fun r1750=>
  (if (!seq2 r1750 p0)=true then
  some (([],false))
  else
  some ((s1467,true)))))))))
def Q6j (n:Nat)(p0:Z9):Option ((List Q4)×Z9):=
  ((Q5h).bind fun r1=>
  ((Z7 p0 (wsub .i64 (lenZ r1.length) 1)).bind fun r2=>
  ((idx r1 r2.1).bind fun x3=>
  ((Q64 n x3).bind fun r4=>
  some ((r4.1,r2.2))))))
def Q9b (p0:Q8g)(p1:Int):Option (Int):=
  (if (ieq p0.index 0)=true then
  some (p1)
  else
  some (p0.index))
def Q0m (p0:(List Q4))(p1:Q6)(p2:Int):Option ((List Q6)):=
  ((idx p0 p1.data).bind fun x1=>
  ((idx x1.ctors p2).bind fun x2=>
  ((forL (fun k152 x153 (s146:(List Q6))=>
  (((if (ieq x153.index (-1))=true then
  ((Q9b x2 p1.index).bind fun r176=>
  some (Ctl.brk r176))
  else
  some (Ctl.brk x153.index))).bind fun (o172:Ctl _ (Int))=>match o172 with
  | .ret r=>some r
  | .go _=>none
  | .brk s171=>
  ((app s146 [(Q6.mk x153.data s171)]).bind fun x178=>
  some (Ctl.go x178)))) 0 x2.args []).bind fun (o145:Ctl _ ((List Q6)))=>match o145 with
  | .ret r=>some r
  | .go _=>none
  | .brk s156=>
  some (s156))))
def Z15 (p0:Q6):Option (Int):=
  some (wadd .i64 (wmul .i64 p0.data 4) p0.index)
def Q22 (p0:(List Int))(p1:Q6):Option (Int):=
  (if (ieq p1.data (-1))=true then
  some (1)
  else
  ((Z15 p1).bind fun r3=>
  ((idx p0 r3).bind fun x4=>
  some (x4))))
def Q52 (p0:(List Q4))(p1:(List Int))(p2:Q6)(p3:Int):Option (Int):=
  ((Q0m p0 p2 p3).bind fun r1=>
  ((forL (fun k111 x112 (s105:Int)=>
  ((((Q22 p1 x112).bind fun r125=>
  (if (ieq r125 0)=true then
  some (Ctl.ret (Ctl.ret (0)))
  else
  (if (ilt s105 r125)=true then
  some (Ctl.brk r125)
  else
  some (Ctl.brk s105))))).bind fun (o122:Ctl _ (Int))=>match o122 with
  | .ret r=>some r
  | .go _=>none
  | .brk s121=>
  some (Ctl.go s121))) 0 r1 0).bind fun (o104:Ctl _ (Int))=>match o104 with
  | .ret r=>some r
  | .go _=>none
  | .brk s115=>
  some (wadd .i64 s115 1)))
def Z16 (p0:Q8g)(p1:Int):Option (Bool):=
  (if (ieq p0.index 0)=true then
  some (true)
  else
  (if (ieq p1 0)=true then
  some (true)
  else
  some (ieq p0.index p1)))
def Q0w (p0:(List Q4))(p1:Q6):Option ((List Int)):=
  (if (ieq p1.data (-1))=true then
  some ([])
  else
  ((idx p0 p1.data).bind fun x138=>
  ((forL (fun k180 x181 (s174:(List Int))=>
  ((((Z16 x181 p1.index).bind fun r193=>
  (if r193=true then
  ((app s174 [(k180:Int)]).bind fun x195=>
  some (Ctl.brk x195))
  else
  some (Ctl.brk s174)))).bind fun (o190:Ctl _ ((List Int)))=>match o190 with
  | .ret r=>some r
  | .go _=>none
  | .brk s189=>
  some (Ctl.go s189))) 0 x138.ctors []).bind fun (o173:Ctl _ ((List Int)))=>match o173 with
  | .ret r=>some r
  | .go _=>none
  | .brk s184=>
  some (s184))))
def Q0v (n:Nat)(p0:(List Q4)):Option ((List Int)):=
  ((mkS (wmul .i64 (lenZ p0.length) 4) 0).bind fun x1=>
  ((whileL (fun (s8509:(List Int)×Int)=>
  (if (ile s8509.2 (lenZ s8509.1.length))=true then
  ((whileL (fun (s9929:(List Int)×Int)=>
  (if (ilt s9929.2 (lenZ s9929.1.length))=true then
  ((Q0w p0 (Q6.mk (wquo .i64 s9929.2 4) (wrem s9929.2 4))).bind fun r10080=>
  ((forL (fun k10174 x10175 (s10168:(List Int))=>
  ((((Q52 p0 s10168 (Q6.mk (wquo .i64 s9929.2 4) (wrem s9929.2 4)) x10175).bind fun r10200=>
  (if (ilt 0 r10200)=true then
  ((idx s10168 s9929.2).bind fun x10211=>
  (if (ieq x10211 0)=true then
  ((setI s10168 s9929.2 r10200).bind fun x10213=>
  some (Ctl.brk x10213))
  else
  (if (ilt r10200 x10211)=true then
  ((setI s10168 s9929.2 r10200).bind fun x10215=>
  some (Ctl.brk x10215))
  else
  some (Ctl.brk s10168))))
  else
  some (Ctl.brk s10168)))).bind fun (o10197:Ctl _ ((List Int)))=>match o10197 with
  | .ret r=>some r
  | .go _=>none
  | .brk s10196=>
  some (Ctl.go s10196))) 0 r10080 s9929.1).bind fun (o10167:Ctl _ ((List Int)))=>match o10167 with
  | .ret r=>some r
  | .go _=>none
  | .brk s10178=>
  some (Ctl.go (s10178,wadd .i64 s9929.2 1))))
  else
  some (Ctl.brk (s9929.1,s9929.2)))) n (s8509.1,0)).bind fun (o9928:Ctl _ ((List Int)×Int))=>match o9928 with
  | .ret r=>some r
  | .go _=>none
  | .brk s9939=>
  some (Ctl.go (s9939.1,wadd .i64 s8509.2 1)))
  else
  some (Ctl.brk (s8509.1,s8509.2)))) n (x1,0)).bind fun (o8508:Ctl _ ((List Int)×Int))=>match o8508 with
  | .ret r=>some r
  | .go _=>none
  | .brk s8519=>
  some (s8519.1)))
def Q3p:Nat→Z9→(List Q4)→(List Int)→Q6→Int→Option (Q1×Z9)
 | 0,_,_,_,_,_=>none
 | n+1,p0,p1,p2,p3,p4=>
  (if (ieq p3.data (-1))=true then
  ((Z7 p0 10).bind fun r5=>
  some (((Q1.mk (-1) r5.1 []),r5.2)))
  else
  ((Q0w p1 p3).bind fun r7=>
  ((forL (fun k267 x268 (s261:(List Int))=>
  ((((Q52 p1 p2 p3 x268).bind fun r296=>
  (if (ilt 0 r296)=true then
  (if (ile r296 p4)=true then
  ((app s261 [x268]).bind fun x310=>
  some (Ctl.brk x310))
  else
  ((Q22 p2 p3).bind fun r311=>
  (if (ieq r296 r311)=true then
  ((app s261 [x268]).bind fun x313=>
  some (Ctl.brk x313))
  else
  some (Ctl.brk s261))))
  else
  some (Ctl.brk s261)))).bind fun (o293:Ctl _ ((List Int)))=>match o293 with
  | .ret r=>some r
  | .go _=>none
  | .brk s292=>
  some (Ctl.go s292))) 0 r7 []).bind fun (o260:Ctl _ ((List Int)))=>match o260 with
  | .ret r=>some r
  | .go _=>none
  | .brk s271=>
  ((Z7 p0 (lenZ s271.length)).bind fun r316=>
  ((idx s271 r316.1).bind fun x317=>
  ((Q0m p1 p3 x317).bind fun r318=>
  ((forL (fun k390 x391 (s384:Z9×(List Q1))=>
  ((Q3p n s384.1 p1 p2 x391 (wsub .i64 p4 1)).bind fun r398=>
  ((app s384.2 [r398.1]).bind fun x399=>
  some (Ctl.go (r398.2,x399))))) 0 r318 (r316.2,[])).bind fun (o383:Ctl _ (Z9×(List Q1)))=>match o383 with
  | .ret r=>some r
  | .go _=>none
  | .brk s394=>
  some (((Q1.mk x317 0 s394.2),s394.1)))))))))
def Q46 (n:Nat)(p0:Z9):Option ((List Q4)×Q6×Q1×Z9):=
  ((Q6j n p0).bind fun r1=>
  ((Q0v n r1.1).bind fun r2=>
  ((Z7 r1.2 (lenZ r1.1.length)).bind fun r3=>
  ((X8 r3.2 [0,0,1,2]).bind fun r4=>
  ((((Q22 r2 (Q6.mk r3.1 r4.1)).bind fun r12=>
  (if (ieq r12 0)=true then
  some (Ctl.brk ((-1),0))
  else
  some (Ctl.brk (r3.1,r4.1))))).bind fun (o9:Ctl _ (Int×Int))=>match o9 with
  | .ret r=>some r
  | .go _=>none
  | .brk s8=>
  ((X8 r4.2 [3,2,4,1]).bind fun r15=>
  ((Q3p n r15.2 r1.1 r2 (Q6.mk s8.1 s8.2) r15.1).bind fun r16=>
  some ((r1.1,(Q6.mk s8.1 s8.2),r16.1,r16.2)))))))))
def Q7h (p0:Int):Option (Int):=
  (if (ieq p0 5)=true then
  some (2)
  else
  (if (ieq p0 6)=true then
  some (1)
  else
  (if (ieq p0 4)=true then
  some ((-1))
  else
  some (0))))
def Q44 (n:Nat)(p0:(List Q4))(p1:Q6)(p2:Q0):Option ((List Q6)):=
  (if (ieq p2.op 4)=true then
  ((Q0m p0 p1 p2.ctor).bind fun r5=>
  some (r5))
  else
  ((whileL (fun (s66:(List Q6)×Int)=>
  ((Q7h p2.op).bind fun r80=>
  (if (ilt s66.2 r80)=true then
  ((app s66.1 [p1]).bind fun x83=>
  some (Ctl.go (x83,wadd .i64 s66.2 1)))
  else
  some (Ctl.brk (s66.1,s66.2))))) n ([],0)).bind fun (o65:Ctl _ ((List Q6)×Int))=>match o65 with
  | .ret r=>some r
  | .go _=>none
  | .brk s76=>
  some (s76.1)))
def Q17:Nat→(List Z2)→(List Q4)→Q6→Q0→Option ((List Z2))
 | 0,_,_,_,_=>none
 | n+1,p0,p1,p2,p3=>
  (((if (ieq p3.op 2)=true then
  ((app p0 [(Z2.mk p3.var p2)]).bind fun x20=>
  some (Ctl.brk x20))
  else
  (if (ieq p3.op 6)=true then
  ((app p0 [(Z2.mk p3.var p2)]).bind fun x22=>
  some (Ctl.brk x22))
  else
  some (Ctl.brk p0)))).bind fun (o11:Ctl _ ((List Z2)))=>match o11 with
  | .ret r=>some r
  | .go _=>none
  | .brk s10=>
  ((Q44 n p1 p2 p3).bind fun r23=>
  ((forL (fun k179 x180 (s173:(List Z2))=>
  (((if (ieq (k179:Int) 0)=true then
  some (Ctl.brk ())
  else
  (if (!ieq p3.op 5)=true then
  some (Ctl.brk ())
  else
  some (Ctl.ret (Ctl.brk s173))))).bind fun (o190:Ctl _ (Unit))=>match o190 with
  | .ret r=>some r
  | .go _=>none
  | .brk s189=>
  ((idx p3.kids (k179:Int)).bind fun x201=>
  ((Q17 n s173 p1 x180 x201).bind fun r202=>
  some (Ctl.go r202))))) 0 r23 s10).bind fun (o172:Ctl _ ((List Z2)))=>match o172 with
  | .ret r=>some r
  | .go _=>none
  | .brk s183=>
  some (s183))))
def Q63:Nat→Z9→Q0→Int→Option (Q0×Int×Z9)
 | 0,_,_,_=>none
 | n+1,p0,p1,p2=>
  (if (ilt 5 p2)=true then
  some ((p1,p2,p0))
  else
  (if (ieq p1.op 5)=true then
  some ((p1,p2,p0))
  else
  (if (ieq p1.op 3)=true then
  some ((p1,p2,p0))
  else
  (((if (ieq p1.op 1)=true then
  ((Z7 p0 2).bind fun r40=>
  (if (ieq r40.1 0)=true then
  some (Ctl.ret (((Q0.mk 2 0 0 0 p2 []),wadd .i64 p2 1,r40.2)))
  else
  some (Ctl.brk r40.2)))
  else
  some (Ctl.brk p0))).bind fun (o29:Ctl _ (Z9))=>match o29 with
  | .ret r=>some r
  | .go _=>none
  | .brk s28=>
  ((forL (fun k116 x117 (s110:Z9×(List Q0)×Int)=>
  ((Q63 n s110.1 x117 s110.2.2).bind fun r124=>
  ((app s110.2.1 [r124.1]).bind fun x125=>
  some (Ctl.go (r124.2.2,x125,r124.2.1))))) 0 p1.kids (s28,[],p2)).bind fun (o109:Ctl _ (Z9×(List Q0)×Int))=>match o109 with
  | .ret r=>some r
  | .go _=>none
  | .brk s120=>
  (((if (ile s120.2.2 5)=true then
  ((Z7 s120.1 6).bind fun r150=>
  (if (ieq r150.1 0)=true then
  some (Ctl.ret (((Q0.mk 6 0 0 0 s120.2.2 [(Q0.mk p1.op p1.ctor p1.n p1.m p1.var s120.2.1)]),wadd .i64 s120.2.2 1,r150.2)))
  else
  some (Ctl.brk r150.2)))
  else
  some (Ctl.brk s120.1))).bind fun (o139:Ctl _ (Z9))=>match o139 with
  | .ret r=>some r
  | .go _=>none
  | .brk s138=>
  some (((Q0.mk p1.op p1.ctor p1.n p1.m p1.var s120.2.1),s120.2.2,s138))))))))
def Q2m:Nat→Z9→(List Q4)→Q6→Int→Option (Q0×Z9)
 | 0,_,_,_,_=>none
 | n+1,p0,p1,p2,p3=>
  (if (ilt p3 2)=true then
  some (((Q0.mk 1 0 0 0 0 []),p0))
  else
  ((Z7 p0 4).bind fun r20=>
  (if (ieq r20.1 0)=true then
  some (((Q0.mk 1 0 0 0 0 []),r20.2))
  else
  ((Z7 r20.2 6).bind fun r29=>
  (if (ieq r29.1 0)=true then
  ((Q2m n r29.2 p1 p2 (wsub .i64 p3 1)).bind fun r31=>
  ((Q2m n r31.2 p1 p2 (wsub .i64 p3 1)).bind fun r32=>
  some (((Q0.mk 5 0 0 0 0 [r31.1,r32.1]),r32.2))))
  else
  (if (ieq p2.data (-1))=true then
  ((Z7 r29.2 10).bind fun r43=>
  ((Z7 r43.2 (wsub .i64 10 r43.1)).bind fun r44=>
  ((Z7 r44.2 2).bind fun r45=>
  some (((Q0.mk 3 0 r43.1 (wadd .i64 r43.1 (wmul .i64 r44.1 r45.1)) 0 []),r45.2)))))
  else
  ((Q0w p1 p2).bind fun r49=>
  (if (ieq (lenZ r49.length) 0)=true then
  some (((Q0.mk 1 0 0 0 0 []),r29.2))
  else
  ((Z7 r29.2 (lenZ r49.length)).bind fun r52=>
  ((idx r49 r52.1).bind fun x53=>
  ((Q0m p1 p2 x53).bind fun r54=>
  ((forL (fun k126 x127 (s120:Z9×(List Q0))=>
  ((Q2m n s120.1 p1 x127 (wsub .i64 p3 1)).bind fun r134=>
  ((app s120.2 [r134.1]).bind fun x135=>
  some (Ctl.go (r134.2,x135))))) 0 r54 (r52.2,[])).bind fun (o119:Ctl _ (Z9×(List Q0)))=>match o119 with
  | .ret r=>some r
  | .go _=>none
  | .brk s130=>
  some (((Q0.mk 4 x53 0 0 0 s130.2),s130.1))))))))))))))
def Q5s (p0:(List Int))(p1:Int):Option (Bool):=
  ((forL (fun k48 x49 (s42:Unit)=>
  (if (ieq x49 p1)=true then
  some (Ctl.ret (true))
  else
  some (Ctl.go ()))) 0 p0 ()).bind fun (o41:Ctl _ (Unit))=>match o41 with
  | .ret r=>some r
  | .go _=>none
  | .brk s52=>
  some (false))
def Q8b (p0:(List Q4))(p1:Q6)(p2:Q0):Option (Bool):=
  (((if (ieq p2.op 2)=true then
  some (Ctl.brk true)
  else
  some (Ctl.brk (ieq p2.op 6)))).bind fun (o3:Ctl _ (Bool))=>match o3 with
  | .ret r=>some r
  | .go _=>none
  | .brk s2=>
  (((if s2=true then
  (if (ilt p2.var 0)=true then
  some (Ctl.ret (false))
  else
  (if (ilt 5 p2.var)=true then
  some (Ctl.ret (false))
  else
  some (Ctl.brk ())))
  else
  (if (!ieq p2.var 0)=true then
  some (Ctl.ret (false))
  else
  some (Ctl.brk ())))).bind fun (o19:Ctl _ (Unit))=>match o19 with
  | .ret r=>some r
  | .go _=>none
  | .brk s18=>
  (((if (!ieq p2.op 3)=true then
  (if (!ieq p2.n 0)=true then
  some (Ctl.ret (false))
  else
  (if (!ieq p2.m 0)=true then
  some (Ctl.ret (false))
  else
  (if (!ieq p2.op 4)=true then
  (if (!ieq p2.ctor 0)=true then
  some (Ctl.ret (false))
  else
  some (Ctl.brk ()))
  else
  some (Ctl.brk ()))))
  else
  (if (!ieq p2.op 4)=true then
  (if (!ieq p2.ctor 0)=true then
  some (Ctl.ret (false))
  else
  some (Ctl.brk ()))
  else
  some (Ctl.brk ())))).bind fun (o53:Ctl _ (Unit))=>match o53 with
  | .ret r=>some r
  | .go _=>none
  | .brk s52=>
  (((if (ieq p2.op 1)=true then
  some (Ctl.brk (ieq p2.op 1))
  else
  (if (ieq p2.op 2)=true then
  some (Ctl.brk (ieq p2.op 2))
  else
  (if (ieq p2.op 5)=true then
  some (Ctl.brk (ieq p2.op 5))
  else
  some (Ctl.brk (ieq p2.op 6)))))).bind fun (o102:Ctl _ (Bool))=>match o102 with
  | .ret r=>some r
  | .go _=>none
  | .brk s101=>
  (if s101=true then
  some (true)
  else
  (if (ieq p2.op 3)=true then
  (if (ieq p1.data (-1))=true then
  (if (ile 0 p2.n)=true then
  (if (ile p2.n p2.m)=true then
  some (ile p2.m 9)
  else
  some (false))
  else
  some (false))
  else
  some (false))
  else
  (if (ieq p2.op 4)=true then
  ((Q0w p0 p1).bind fun r117=>
  ((Q5s r117 p2.ctor).bind fun r118=>
  some (r118)))
  else
  some (false))))))))
def Q2q:Nat→(List Q4)→Q6→Q0→Int→Option (Bool)
 | 0,_,_,_,_=>none
 | n+1,p0,p1,p2,p3=>
  (if (ilt p3 1)=true then
  some (false)
  else
  ((Q8b p0 p1 p2).bind fun r20=>
  (if (!r20)=true then
  some (false)
  else
  ((Q44 n p0 p1 p2).bind fun r22=>
  (if (!ieq (lenZ p2.kids.length) (lenZ r22.length))=true then
  some (false)
  else
  ((forL (fun k102 x103 (s96:Unit)=>
  ((idx p2.kids (k102:Int)).bind fun x111=>
  ((Q2q n p0 x103 x111 (wsub .i64 p3 1)).bind fun r112=>
  (if (!r112)=true then
  some (Ctl.ret (false))
  else
  some (Ctl.go ()))))) 0 r22 ()).bind fun (o95:Ctl _ (Unit))=>match o95 with
  | .ret r=>some r
  | .go _=>none
  | .brk s106=>
  some (true)))))))
def Q45:Nat→Q0→Int→Option (Int)
 | 0,_,_=>none
 | n+1,p0,p1=>
  ((forL (fun k94 x95 (s88:Int)=>
  (if (ile s88 p1)=true then
  ((Q45 n x95 (wsub .i64 p1 s88)).bind fun r103=>
  some (Ctl.go (wadd .i64 s88 r103)))
  else
  some (Ctl.brk s88))) 0 p0.kids 1).bind fun (o87:Ctl _ (Int))=>match o87 with
  | .ret r=>some r
  | .go _=>none
  | .brk s98=>
  some (s98))
def Q3n (p0:(List Z2))(p1:Int):Option (Int):=
  ((forL (fun k48 x49 (s42:Unit)=>
  (if (ieq x49.var p1)=true then
  some (Ctl.ret ((k48:Int)))
  else
  some (Ctl.go ()))) 0 p0 ()).bind fun (o41:Ctl _ (Unit))=>match o41 with
  | .ret r=>some r
  | .go _=>none
  | .brk s52=>
  some ((-1)))
def Q5f (p0:(List Z2))(p1:(List Z2)):Option (Bool):=
  ((forL (fun k138 x139 (s132:Unit)=>
  ((Q3n p1 x139.var).bind fun r153=>
  (if (ilt r153 0)=true then
  some (Ctl.ret (false))
  else
  ((idx p1 r153).bind fun x160=>
  (if (!Q8m [ieq x160.typ.data x139.typ.data,ieq x160.typ.index x139.typ.index])=true then
  some (Ctl.ret (false))
  else
  some (Ctl.go ())))))) 0 p0 ()).bind fun (o131:Ctl _ (Unit))=>match o131 with
  | .ret r=>some r
  | .go _=>none
  | .brk s142=>
  some (ieq (lenZ p0.length) (lenZ p1.length)))
def Q34:Nat→(List Q4)→Q6→Q0→Option (Bool)
 | 0,_,_,_=>none
 | n+1,p0,p1,p2=>
  ((Q44 n p0 p1 p2).bind fun r1=>
  ((forL (fun k79 x80 (s73:Unit)=>
  ((idx p2.kids (k79:Int)).bind fun x88=>
  ((Q34 n p0 x80 x88).bind fun r89=>
  (if (!r89)=true then
  some (Ctl.ret (false))
  else
  some (Ctl.go ()))))) 0 r1 ()).bind fun (o72:Ctl _ (Unit))=>match o72 with
  | .ret r=>some r
  | .go _=>none
  | .brk s83=>
  (if (ieq p2.op 5)=true then
  ((idx p2.kids 0).bind fun x102=>
  ((idx p2.kids 1).bind fun x103=>
  ((Q17 n [] p0 p1 x102).bind fun r104=>
  ((Q17 n [] p0 p1 x103).bind fun r105=>
  ((Q5f r104 r105).bind fun r106=>
  some (r106))))))
  else
  ((Q17 n [] p0 p1 p2).bind fun r110=>
  ((forL (fun k178 x179 (s172:Unit)=>
  ((Q3n r110 x179.var).bind fun r186=>
  (if (!ieq r186 (k178:Int))=true then
  some (Ctl.ret (false))
  else
  some (Ctl.go ())))) 0 r110 ()).bind fun (o171:Ctl _ (Unit))=>match o171 with
  | .ret r=>some r
  | .go _=>none
  | .brk s182=>
  some (true))))))
def Q7y (n:Nat)(p0:(List Q4))(p1:Q6)(p2:Q0):Option (Bool):=
  ((Q2q n p0 p1 p2 10).bind fun r12=>
  (if r12=true then
  ((Q45 n p2 60).bind fun r14=>
  (if (ile r14 60)=true then
  ((Q34 n p0 p1 p2).bind fun r16=>
  some (r16))
  else
  some (false)))
  else
  some (false)))
def Q7g (n:Nat)(p0:Z9)(p1:(List Q4))(p2:Q6):Option (Q0×Z9):=
  ((X8 p0 [3,2,4,1]).bind fun r1=>
  ((Q2m n r1.2 p1 p2 r1.1).bind fun r2=>
  ((Q63 n r2.2 r2.1 0).bind fun r3=>
  ((Q7y n p1 p2 r3.1).bind fun r7=>
  (if (!r7)=true then
  some (((Q0.mk 1 0 0 0 0 []),r3.2.2))
  else
  some ((r3.1,r3.2.2)))))))
def Q5r (n:Nat)(p0:Z9)(p1:(List Q4))(p2:Q6):Option (Q3×Z9):=
  ((Q7g n p0 p1 p2).bind fun r1=>
  ((Q17 n [] p1 p2 r1.1).bind fun r2=>
  ((forL (fun k274 x275 (s268:Z9×Int×Int×Int)=>
  (((if (ieq x275.typ.data (-1))=true then
  ((Z7 s268.1 2).bind fun r314=>
  (if (ieq r314.1 0)=true then
  ((Z7 r314.2 2).bind fun r316=>
  ((Z7 r316.2 10).bind fun r317=>
  some (Ctl.brk (r317.2,wadd .i64 1 r316.1,x275.var,r317.1))))
  else
  some (Ctl.brk (r314.2,s268.2.1,s268.2.2.1,s268.2.2.2))))
  else
  some (Ctl.brk (s268.1,s268.2.1,s268.2.2.1,s268.2.2.2)))).bind fun (o299:Ctl _ (Z9×Int×Int×Int))=>match o299 with
  | .ret r=>some r
  | .go _=>none
  | .brk s298=>
  some (Ctl.go (s298.1,s298.2.1,s298.2.2.1,s298.2.2.2)))) 0 r2 (r1.2,0,0,0)).bind fun (o267:Ctl _ (Z9×Int×Int×Int))=>match o267 with
  | .ret r=>some r
  | .go _=>none
  | .brk s278=>
  some (((Q3.mk r1.1 (Q37.mk s278.2.1 s278.2.2.1 s278.2.2.2)),s278.1)))))
def Q7f (n:Nat)(p0:Z9)(p1:(List Q4))(p2:Q6):Option ((List Q3)×Z9):=
  ((X8 p0 [3,2,4,5,1,0]).bind fun r42=>
  ((whileL (fun (s63:Z9×(List Q3)×Int)=>
  (if (ilt 0 s63.2.2)=true then
  ((Q5r n s63.1 p1 p2).bind fun r79=>
  ((app s63.2.1 [r79.1]).bind fun x80=>
  some (Ctl.go (r79.2,x80,wsub .i64 s63.2.2 1))))
  else
  some (Ctl.brk (s63.1,s63.2.1,s63.2.2)))) n (r42.2,[],r42.1)).bind fun (o62:Ctl _ (Z9×(List Q3)×Int))=>match o62 with
  | .ret r=>some r
  | .go _=>none
  | .brk s73=>
  some ((s73.2.1,s73.1))))
def Q2p (n:Nat)(p0:Z9):Option ((List Q4)×Q6×(List Q3)×Q1×Z9):=
  ((Q46 n p0).bind fun r1=>
  ((Q7f n r1.2.2.2 r1.1 r1.2.1).bind fun r2=>
  some ((r1.1,r1.2.1,r2.1,r1.2.2.1,r2.2))))
def Q1h (p0:(List Int)):Option (Z9):=
  (((if (ilt 2000 (lenZ p0.length))=true then
  ((Q7q p0 2000).bind fun x8=>
  some (Ctl.brk x8))
  else
  some (Ctl.brk p0))).bind fun (o4:Ctl _ ((List Int)))=>match o4 with
  | .ret r=>some r
  | .go _=>none
  | .brk s3=>
  some ((Z9.mk s3 0)))
def Q48 (p0:(List Q3))(p1:(Q3→Option Bool)):Option (Int):=
  ((forL (fun k68 x69 (s62:Unit)=>
  ((p1 x69).bind fun r76=>
  (if r76=true then
  some (Ctl.ret ((k68:Int)))
  else
  some (Ctl.go ())))) 0 p0 ()).bind fun (o61:Ctl _ (Unit))=>match o61 with
  | .ret r=>some r
  | .go _=>none
  | .brk s72=>
  some ((-1)))
def Q1f (p0:(List Q3))(p1:(Q3→Option Bool)):Option (Bool):=
  ((Q48 p0 p1).bind fun r1=>
  some (ile 0 r1))
def Q4a (p0:Q0)(p1:Bool)(p2:Bool)(p3:Bool)(p4:Int):Option (Bool):=
  (if p1=true then
  (if p2=true then
  (if p3=true then
  some (ieq (lenZ p0.kids.length) p4)
  else
  (if (ieq p0.var 0)=true then
  some (ieq (lenZ p0.kids.length) p4)
  else
  some (false)))
  else
  (if (ieq p0.n 0)=true then
  (if (ieq p0.m 0)=true then
  (if p3=true then
  some (ieq (lenZ p0.kids.length) p4)
  else
  (if (ieq p0.var 0)=true then
  some (ieq (lenZ p0.kids.length) p4)
  else
  some (false)))
  else
  some (false))
  else
  some (false)))
  else
  (if (ieq p0.ctor 0)=true then
  (if p2=true then
  (if p3=true then
  some (ieq (lenZ p0.kids.length) p4)
  else
  (if (ieq p0.var 0)=true then
  some (ieq (lenZ p0.kids.length) p4)
  else
  some (false)))
  else
  (if (ieq p0.n 0)=true then
  (if (ieq p0.m 0)=true then
  (if p3=true then
  some (ieq (lenZ p0.kids.length) p4)
  else
  (if (ieq p0.var 0)=true then
  some (ieq (lenZ p0.kids.length) p4)
  else
  some (false)))
  else
  some (false))
  else
  some (false)))
  else
  some (false)))
def J0 (p0:Int)(p1:Int)(p2:Int):Option (Bool):=
  (if (ile p1 p0)=true then
  some (ile p0 p2)
  else
  some (false))
def Q77 (p0:Int):Option (Bool):=
  ((J0 p0 0 5).bind fun r1=>
  some (r1))
def Q5j (p0:(List Int))(p1:Int):Option (Int):=
  ((forL (fun k48 x49 (s42:Unit)=>
  (if (ieq p1 x49)=true then
  some (Ctl.ret ((k48:Int)))
  else
  some (Ctl.go ()))) 0 p0 ()).bind fun (o41:Ctl _ (Unit))=>match o41 with
  | .ret r=>some r
  | .go _=>none
  | .brk s52=>
  some ((-1)))
def Q0c (p0:(List Int))(p1:Int):Option (Bool):=
  ((Q5j p0 p1).bind fun r1=>
  some (ile 0 r1))
def Q14 (p0:(List Q4))(p1:Q6):Option ((List Int)):=
  (((if (!ieq p1.data (-1))=true then
  ((idx p0 p1.data).bind fun x126=>
  ((forL (fun k208 x209 (s202:(List Int))=>
  (((if (ieq p1.index 0)=true then
  ((app s202 [(k208:Int)]).bind fun x240=>
  some (Ctl.brk x240))
  else
  (if (ieq x209.index 0)=true then
  ((app s202 [(k208:Int)]).bind fun x242=>
  some (Ctl.brk x242))
  else
  (if (ieq x209.index p1.index)=true then
  ((app s202 [(k208:Int)]).bind fun x244=>
  some (Ctl.brk x244))
  else
  some (Ctl.brk s202))))).bind fun (o228:Ctl _ ((List Int)))=>match o228 with
  | .ret r=>some r
  | .go _=>none
  | .brk s227=>
  some (Ctl.go s227))) 0 x126.ctors []).bind fun (o201:Ctl _ ((List Int)))=>match o201 with
  | .ret r=>some r
  | .go _=>none
  | .brk s212=>
  some (Ctl.brk s212)))
  else
  some (Ctl.brk []))).bind fun (o122:Ctl _ ((List Int)))=>match o122 with
  | .ret r=>some r
  | .go _=>none
  | .brk s121=>
  some (s121))
def Q15 (p0:(List Q4))(p1:Q6)(p2:Int):Option ((List Q6)):=
  ((idx p0 p1.data).bind fun x1=>
  ((idx x1.ctors p2).bind fun x2=>
  (((if (ieq x2.index 0)=true then
  some (Ctl.brk p1.index)
  else
  some (Ctl.brk x2.index))).bind fun (o5:Ctl _ (Int))=>match o5 with
  | .ret r=>some r
  | .go _=>none
  | .brk s4=>
  ((forL (fun k118 x119 (s112:(List Q6))=>
  (((if (ieq x119.index (-1))=true then
  some (Ctl.brk s4)
  else
  some (Ctl.brk x119.index))).bind fun (o132:Ctl _ (Int))=>match o132 with
  | .ret r=>some r
  | .go _=>none
  | .brk s131=>
  ((app s112 [(Q6.mk x119.data s131)]).bind fun x136=>
  some (Ctl.go x136)))) 0 x2.args []).bind fun (o111:Ctl _ ((List Q6)))=>match o111 with
  | .ret r=>some r
  | .go _=>none
  | .brk s122=>
  some (s122)))))
def Q8c (p0:(List Q4))(p1:Q6)(p2:Q0):Option ((List Q6)×Bool):=
  (if (ieq p2.op 1)=true then
  ((Q4a p2 false false false 0).bind fun r68=>
  some (([],r68)))
  else
  (if (ieq p2.op 2)=true then
  ((Q4a p2 false false true 0).bind fun r77=>
  (if r77=true then
  ((Q77 p2.var).bind fun r79=>
  some (([],r79)))
  else
  some (([],false))))
  else
  (if (ieq p2.op 3)=true then
  (if (ieq p1.data (-1))=true then
  ((Q4a p2 false true false 0).bind fun r94=>
  (if r94=true then
  (if (ile 0 p2.n)=true then
  (if (ile p2.n p2.m)=true then
  some (([],ile p2.m 9))
  else
  some (([],false)))
  else
  some (([],false)))
  else
  some (([],false))))
  else
  some (([],false)))
  else
  (if (ieq p2.op 4)=true then
  ((Q14 p0 p1).bind fun r108=>
  ((Q0c r108 p2.ctor).bind fun r109=>
  (if (!r109)=true then
  some (([],false))
  else
  ((Q15 p0 p1 p2.ctor).bind fun r111=>
  ((Q4a p2 true false false (lenZ r111.length)).bind fun r112=>
  some ((r111,r112)))))))
  else
  (if (ieq p2.op 5)=true then
  ((Q4a p2 false false false 2).bind fun r118=>
  some (([p1,p1],r118)))
  else
  (if (ieq p2.op 6)=true then
  ((Q4a p2 false false true 1).bind fun r127=>
  (if r127=true then
  ((Q77 p2.var).bind fun r129=>
  some (([p1],r129)))
  else
  some (([p1],false))))
  else
  some (([],false))))))))
def Q3e (p0:(List Z2))(p1:(Z2→Option Bool)):Option (Int):=
  ((forL (fun k68 x69 (s62:Unit)=>
  ((p1 x69).bind fun r76=>
  (if r76=true then
  some (Ctl.ret ((k68:Int)))
  else
  some (Ctl.go ())))) 0 p0 ()).bind fun (o61:Ctl _ (Unit))=>match o61 with
  | .ret r=>some r
  | .go _=>none
  | .brk s72=>
  some ((-1)))
def Q18 (p0:(List Z2))(p1:(Z2→Option Bool)):Option (Bool):=
  ((Q3e p0 p1).bind fun r1=>
  some (ile 0 r1))
def Q39 (p0:(List Z2))(p1:Z2):Option (Int):=
  ((forL (fun k48 x49 (s42:Unit)=>
  (if (Q8m [ieq p1.var x49.var,ieq p1.typ.data x49.typ.data,ieq p1.typ.index x49.typ.index])=true then
  some (Ctl.ret ((k48:Int)))
  else
  some (Ctl.go ()))) 0 p0 ()).bind fun (o41:Ctl _ (Unit))=>match o41 with
  | .ret r=>some r
  | .go _=>none
  | .brk s52=>
  some ((-1)))
def Q0j (p0:(List Z2))(p1:Z2):Option (Bool):=
  ((Q39 p0 p1).bind fun r1=>
  some (ile 0 r1))
def Q66 (p0:Z2)(q0:(List Z2)):Option (Bool):=
  ((Q0j q0 p0).bind fun r1=>
  some ((!r1)))
def Q5u (p0:(List Z2))(p1:(List Z2)):Option (Bool):=
  (if (ieq (lenZ p0.length) (lenZ p1.length))=true then
  ((Q18 p0 (fun a0=>Q66 a0 p1)).bind fun r5=>
  some ((!r5)))
  else
  some (false))
def Q1k:Nat→(List Q4)→Q6→Q0→Int→Int→Option ((List Z2)×Bool×Int)
 | 0,_,_,_,_,_=>none
 | n+1,p0,p1,p2,p3,p4=>
  (if (ilt 60 (wadd .i64 p4 1))=true then
  some (([],false,wadd .i64 p4 1))
  else
  (if (ilt 10 p3)=true then
  some (([],false,wadd .i64 p4 1))
  else
  ((Q8c p0 p1 p2).bind fun r11=>
  (if (!r11.2)=true then
  some (([],false,wadd .i64 p4 1))
  else
  (((if (ieq p2.op 2)=true then
  ((app [] [(Z2.mk p2.var p1)]).bind fun x33=>
  some (Ctl.brk [(Z2.mk p2.var p1)]))
  else
  (if (ieq p2.op 6)=true then
  ((app [] [(Z2.mk p2.var p1)]).bind fun x35=>
  some (Ctl.brk [(Z2.mk p2.var p1)]))
  else
  some (Ctl.brk [])))).bind fun (o24:Ctl _ ((List Z2)))=>match o24 with
  | .ret r=>some r
  | .go _=>none
  | .brk s23=>
  ((forL (fun k287 x288 (s281:Int×(List Z2))=>
  ((((idx r11.1 (k287:Int)).bind fun x315=>
  ((Q1k n p0 x315 x288 (wadd .i64 p3 1) s281.1).bind fun r316=>
  (if (!r316.2.1)=true then
  some (Ctl.ret (Ctl.ret (([],false,r316.2.2))))
  else
  (if (ieq p2.op 5)=true then
  (if (ieq (k287:Int) 1)=true then
  ((Q5u s281.2 r316.1).bind fun r328=>
  (if (!r328)=true then
  some (Ctl.ret (Ctl.ret (([],false,r316.2.2))))
  else
  some (Ctl.brk (r316.2.2,s281.2))))
  else
  ((app s281.2 r316.1).bind fun x331=>
  some (Ctl.brk (r316.2.2,x331))))
  else
  ((app s281.2 r316.1).bind fun x332=>
  some (Ctl.brk (r316.2.2,x332)))))))).bind fun (o312:Ctl _ (Int×(List Z2)))=>match o312 with
  | .ret r=>some r
  | .go _=>none
  | .brk s311=>
  some (Ctl.go (s311.1,s311.2)))) 0 p2.kids (wadd .i64 p4 1,s23)).bind fun (o280:Ctl _ (Int×(List Z2)))=>match o280 with
  | .ret r=>some r
  | .go _=>none
  | .brk s291=>
  ((forL (fun k423 x424 (s417:(List Bool))=>
  ((aget 6 s417 x424.var).bind fun x435=>
  (if x435=true then
  some (Ctl.ret (([],false,s291.1)))
  else
  ((aset 6 s417 x424.var true).bind fun x437=>
  some (Ctl.go x437))))) 0 s291.2 [false,false,false,false,false,false]).bind fun (o416:Ctl _ ((List Bool)))=>match o416 with
  | .ret r=>some r
  | .go _=>none
  | .brk s427=>
  some ((s291.2,true,s291.1)))))))))
def Q3t (n:Nat)(p0:(List Q4))(p1:Q6)(p2:Q0):Option ((List Z2)×Bool):=
  ((Q1k n p0 p1 p2 1 0).bind fun r1=>
  some ((r1.1,r1.2.1)))
def Q6k (p0:Q37)(p1:(List Z2)):Option (Bool):=
  (if (ieq p0.op 0)=true then
  some (Q8m [ieq p0.op 0,ieq p0.var 0,ieq p0.n 0])
  else
  ((J0 p0.op 1 2).bind fun r14=>
  (if r14=true then
  ((J0 p0.n 0 9).bind fun r16=>
  (if r16=true then
  ((Q0j p1 (Z2.mk p0.var (Q6.mk (-1) 0))).bind fun r18=>
  some (r18))
  else
  some (false)))
  else
  some (false))))
def Q4o (n:Nat)(p0:(List Q4))(p1:Q6)(p2:Q3):Option (Bool):=
  ((Q3t n p0 p1 p2.pat).bind fun r1=>
  (if r1.2=true then
  ((Q6k p2.guard r1.1).bind fun r6=>
  some (r6))
  else
  some (false)))
def Q3v (n:Nat)(p0:Q3)(q0:(List Q4))(q1:Q6):Option (Bool):=
  ((Q4o n q0 q1 p0).bind fun r1=>
  some ((!r1)))
def Q53 (p0:(List Q6))(p1:(Q6→Option Bool)):Option (Int):=
  ((forL (fun k68 x69 (s62:Unit)=>
  ((p1 x69).bind fun r76=>
  (if r76=true then
  some (Ctl.ret ((k68:Int)))
  else
  some (Ctl.go ())))) 0 p0 ()).bind fun (o61:Ctl _ (Unit))=>match o61 with
  | .ret r=>some r
  | .go _=>none
  | .brk s72=>
  some ((-1)))
def Q0d (p0:(List Q6))(p1:(Q6→Option Bool)):Option (Bool):=
  ((Q53 p0 p1).bind fun r1=>
  some (ile 0 r1))
def Q8l (n:Nat)(p0:ByteArray):Option (Bool):=
  ((J0 (lenZ p0.size) 1 5).bind fun r39=>
  (if (!r39)=true then
  some (false)
  else
  ((sidx p0 0).bind fun x42=>
  (if (ilt x42 65)=true then
  some (false)
  else
  (if (ilt 90 x42)=true then
  some (false)
  else
  ((whileL (fun (s151:Int)=>
  (if (ilt s151 (lenZ p0.size))=true then
  ((sidx p0 s151).bind fun x177=>
  (if (ilt x177 97)=true then
  some (Ctl.ret (false))
  else
  (if (ilt 122 x177)=true then
  some (Ctl.ret (false))
  else
  some (Ctl.go (wadd .i64 s151 1)))))
  else
  some (Ctl.brk s151))) n 1).bind fun (o150:Ctl _ (Int))=>match o150 with
  | .ret r=>some r
  | .go _=>none
  | .brk s161=>
  some (true)))))))
def Z2d (p0:(List Q4))(p1:Q6):Option (Bool):=
  (if (Q8m [ieq p1.data (-1),ieq p1.index 0])=true then
  some (true)
  else
  ((J0 p1.data 0 (wsub .i64 (lenZ p0.length) 1)).bind fun r9=>
  (if r9=true then
  ((J0 p1.index (-1) 3).bind fun r11=>
  some (r11))
  else
  some (false))))
def Q9d (p0:Q6)(q0:(List Q4)):Option (Bool):=
  ((Z2d q0 p0).bind fun r1=>
  some ((!r1)))
def Z1a (n:Nat)(p0:(List Q4))(p1:Q8g):Option (Bool):=
  ((Q8l n p1.name).bind fun r14=>
  (if r14=true then
  (if (ile (lenZ p1.args.length) 3)=true then
  ((J0 p1.index 0 3).bind fun r17=>
  (if r17=true then
  ((Q0d p1.args (fun a0=>Q9d a0 p0)).bind fun r19=>
  some ((!r19)))
  else
  some (false)))
  else
  some (false))
  else
  some (false)))
def Q4p (n:Nat)(p0:(List Q4)):Option (Bool):=
  (if (ilt 4 (lenZ p0.length))=true then
  some (false)
  else
  ((forL (fun k2464 x2465 (s2458:(List (ByteArray×Bool))×(List (ByteArray×Bool)))=>
  (if (!ieq (lenZ x2465.name.size) 1)=true then
  some (Ctl.ret (false))
  else
  ((sidx x2465.name 0).bind fun x2755=>
  (if (ilt x2755 65)=true then
  some (Ctl.ret (false))
  else
  (if (ilt 90 x2755)=true then
  some (Ctl.ret (false))
  else
  (if (seq2 x2465.name (ByteArray.mk #[73]))=true then
  some (Ctl.ret (false))
  else
  (if (mget s2458.2 x2465.name false)=true then
  some (Ctl.ret (false))
  else
  ((J0 (lenZ x2465.ctors.length) 1 4).bind fun r2760=>
  (if (!r2760)=true then
  some (Ctl.ret (false))
  else
  ((forL (fun k2891 x2892 (s2885:(List (ByteArray×Bool)))=>
  ((Z1a n p0 x2892).bind fun r2947=>
  (if (!r2947)=true then
  some (Ctl.ret (Ctl.ret (false)))
  else
  (if (mget s2885 x2892.name false)=true then
  some (Ctl.ret (Ctl.ret (false)))
  else
  some (Ctl.go (mset s2885 x2892.name true)))))) 0 x2465.ctors s2458.1).bind fun (o2884:Ctl _ ((List (ByteArray×Bool))))=>match o2884 with
  | .ret r=>some r
  | .go _=>none
  | .brk s2895=>
  some (Ctl.go (s2895,mset s2458.2 x2465.name true)))))))))))) 0 p0 ([],[])).bind fun (o2457:Ctl _ ((List (ByteArray×Bool))×(List (ByteArray×Bool))))=>match o2457 with
  | .ret r=>some r
  | .go _=>none
  | .brk s2468=>
  some (true)))
def Q7m (p0:(List Q4))(p1:Q6):Option (Bool):=
  (if (Q8m [ieq p1.data (-1),ieq p1.index 0])=true then
  some (true)
  else
  ((J0 p1.data 0 (wsub .i64 (lenZ p0.length) 1)).bind fun r9=>
  (if r9=true then
  ((J0 p1.index 0 3).bind fun r11=>
  some (r11))
  else
  some (false))))
def Q3j (n:Nat)(p0:(List Q4))(p1:Q6):Option (Bool):=
  ((Q4p n p0).bind fun r7=>
  (if r7=true then
  ((Q7m p0 p1).bind fun r9=>
  some (r9))
  else
  some (false)))
def Q1y (n:Nat)(p0:(List Q4))(p1:Q6)(p2:(List Q3)):Option (Bool):=
  ((Q3j n p0 p1).bind fun r9=>
  (if r9=true then
  (if (ile (lenZ p2.length) 8)=true then
  ((Q1f p2 (fun a0=>Q3v n a0 p0 p1)).bind fun r12=>
  some ((!r12)))
  else
  some (false))
  else
  some (false)))
def Q1d:Nat→Q0→Option (Int)
 | 0,_=>none
 | n+1,p0=>
  (((if (ieq p0.op 5)=true then
  some (Ctl.brk 0)
  else
  some (Ctl.brk 1))).bind fun (o3:Ctl _ (Int))=>match o3 with
  | .ret r=>some r
  | .go _=>none
  | .brk s2=>
  ((forL (fun k116 x117 (s110:Int)=>
  (((if (ieq p0.op 5)=true then
  ((Q1d n x117).bind fun r131=>
  some (Ctl.brk (imin (wadd .i64 s110 r131) 401)))
  else
  ((Q1d n x117).bind fun r133=>
  some (Ctl.brk (imin (wmul .i64 s110 r133) 401))))).bind fun (o127:Ctl _ (Int))=>match o127 with
  | .ret r=>some r
  | .go _=>none
  | .brk s126=>
  some (Ctl.go s126))) 0 p0.kids s2).bind fun (o109:Ctl _ (Int))=>match o109 with
  | .ret r=>some r
  | .go _=>none
  | .brk s120=>
  some (s120)))
def Q07 (p0:(List Q0)):Option ((List Q0)):=
  ((app [] p0).bind fun x3=>
  some (p0))
def Q2s:Nat→Q0→Option ((List Q0))
 | 0,_=>none
 | n+1,p0=>
  (if (ieq p0.op 5)=true then
  ((idx p0.kids 0).bind fun x10=>
  ((idx p0.kids 1).bind fun x11=>
  ((Q2s n x10).bind fun r12=>
  ((Q2s n x11).bind fun r13=>
  ((app r12 r13).bind fun x14=>
  some (x14))))))
  else
  ((forL (fun k6036 x6037 (s6030:(List Q0))=>
  ((Q2s n x6037).bind fun r6639=>
  ((forL (fun k7139 x7140 (s7133:(List Q0))=>
  ((forL (fun k7223 x7224 (s7217:(List Q0))=>
  ((Q07 x7140.kids).bind fun r7232=>
  ((app r7232 [x7224]).bind fun x7233=>
  ((app s7217 [(Q0.mk x7140.op x7140.ctor x7140.n x7140.m x7140.var x7233)]).bind fun x7234=>
  some (Ctl.go (s7217++[(Q0.mk x7140.op x7140.ctor x7140.n x7140.m x7140.var x7233)])))))) 0 r6639 s7133).bind fun (o7216:Ctl _ ((List Q0)))=>match o7216 with
  | .ret r=>some r
  | .go _=>none
  | .brk s7227=>
  some (Ctl.go s7227))) 0 s6030 []).bind fun (o7132:Ctl _ ((List Q0)))=>match o7132 with
  | .ret r=>some r
  | .go _=>none
  | .brk s7143=>
  some (Ctl.go s7143)))) 0 p0.kids [(Q0.mk p0.op p0.ctor p0.n p0.m p0.var [])]).bind fun (o6029:Ctl _ ((List Q0)))=>match o6029 with
  | .ret r=>some r
  | .go _=>none
  | .brk s6040=>
  some (s6040)))
def Q1a (n:Nat)(p0:(List Q3)):Option ((List (List Q0))×Bool):=
  ((forL (fun k130 x131 (s124:(List (List Q0)))=>
  ((Q1d n x131.pat).bind fun r147=>
  (if (ilt 40 r147)=true then
  some (Ctl.ret (([],false)))
  else
  ((Q2s n x131.pat).bind fun r149=>
  ((app s124 [r149]).bind fun x150=>
  some (Ctl.go (s124++[r149]))))))) 0 p0 []).bind fun (o123:Ctl _ ((List (List Q0))))=>match o123 with
  | .ret r=>some r
  | .go _=>none
  | .brk s134=>
  some ((s134,true)))
def V8 (p0:(List Int)):Option ((List Int)):=
  ((app [] p0).bind fun x3=>
  some (p0))
def Q76:Nat→Q0→(List Int)→(List X0)→(List Q2)→Option ((List X0)×(List Q2))
 | 0,_,_,_,_=>none
 | n+1,p0,p1,p2,p3=>
  ((V8 p1).bind fun r1=>
  (((((if (ieq p0.op 2)=true then
  some (Ctl.brk (ieq p0.op 2))
  else
  some (Ctl.brk (ieq p0.op 6)))).bind fun (o18:Ctl _ (Bool))=>match o18 with
  | .ret r=>some r
  | .go _=>none
  | .brk s17=>
  (if s17=true then
  ((app p3 [(Q2.mk p0.var r1)]).bind fun x22=>
  some (Ctl.brk (p2,(p3++[(Q2.mk p0.var r1)]))))
  else
  (if (ieq p0.op 3)=true then
  ((app p2 [(X0.mk 1 r1 (-1) p0.n p0.m 0 [] 0)]).bind fun x24=>
  some (Ctl.brk ((p2++[(X0.mk 1 r1 (-1) p0.n p0.m 0 [] 0)]),p3)))
  else
  (if (ieq p0.op 4)=true then
  ((app p2 [(X0.mk 1 r1 p0.ctor 0 0 0 [] 0)]).bind fun x26=>
  some (Ctl.brk ((p2++[(X0.mk 1 r1 p0.ctor 0 0 0 [] 0)]),p3)))
  else
  some (Ctl.brk (p2,p3))))))).bind fun (o14:Ctl _ ((List X0)×(List Q2)))=>match o14 with
  | .ret r=>some r
  | .go _=>none
  | .brk s13=>
  ((forL (fun k83 x84 (s79:(List X0)×(List Q2))=>
  (((if (ieq p0.op 4)=true then
  ((V8 p1).bind fun r105=>
  ((app r105 [(k83:Int)]).bind fun x106=>
  some (Ctl.brk x106)))
  else
  some (Ctl.brk p1))).bind fun (o102:Ctl _ ((List Int)))=>match o102 with
  | .ret r=>some r
  | .go _=>none
  | .brk s101=>
  ((Q76 n x84 s101 s79.1 s79.2).bind fun r107=>
  some (Ctl.go (r107.1,r107.2))))) 0 p0.kids (s13.1,s13.2)).bind fun (o78:Ctl _ ((List X0)×(List Q2)))=>match o78 with
  | .ret r=>some r
  | .go _=>none
  | .brk s87=>
  some ((s87.1,s87.2)))))
def Y2 (n:Nat)(p0:(List Q2))(p1:Int)(p2:Int)(p3:(Q2→Q2→Option Int)):Option ((List Q2)):=
  ((whileL (fun (s544:(List Q2)×Int)=>
  (if (ilt s544.2 p2)=true then
  ((whileL (fun (s774:(List Q2)×Int)=>
  (if (ilt p1 s774.2)=true then
  ((idx s774.1 s774.2).bind fun x814=>
  ((idx s774.1 (wsub .i64 s774.2 1)).bind fun x815=>
  ((p3 x814 x815).bind fun r816=>
  (if (ilt r816 0)=true then
  ((setI s774.1 s774.2 x815).bind fun x821=>
  ((idx x821 (wsub .i64 s774.2 1)).bind fun x822=>
  ((setI x821 (wsub .i64 s774.2 1) x814).bind fun x823=>
  some (Ctl.go (x823,wsub .i64 s774.2 1)))))
  else
  some (Ctl.brk (s774.1,s774.2))))))
  else
  some (Ctl.brk (s774.1,s774.2)))) n (s544.1,s544.2)).bind fun (o773:Ctl _ ((List Q2)×Int))=>match o773 with
  | .ret r=>some r
  | .go _=>none
  | .brk s784=>
  some (Ctl.go (s784.1,wadd .i64 s544.2 1)))
  else
  some (Ctl.brk (s544.1,s544.2)))) n (p0,wadd .i64 p1 1)).bind fun (o543:Ctl _ ((List Q2)×Int))=>match o543 with
  | .ret r=>some r
  | .go _=>none
  | .brk s554=>
  some (s554.1))
def Q80 (p0:Int):Option (Int):=
  (((if (ile 4294967296 p0)=true then
  some (Ctl.brk (wshr .u64 p0 32,32))
  else
  some (Ctl.brk (p0,0)))).bind fun (o3:Ctl _ (Int×Int))=>match o3 with
  | .ret r=>some r
  | .go _=>none
  | .brk s2=>
  (((if (ile 65536 s2.1)=true then
  some (Ctl.brk (wshr .u64 s2.1 16,wadd .i64 s2.2 16))
  else
  some (Ctl.brk (s2.1,s2.2)))).bind fun (o9:Ctl _ (Int×Int))=>match o9 with
  | .ret r=>some r
  | .go _=>none
  | .brk s8=>
  (((if (ile 256 s8.1)=true then
  some (Ctl.brk (wshr .u64 s8.1 8,wadd .i64 s8.2 8))
  else
  some (Ctl.brk (s8.1,s8.2)))).bind fun (o15:Ctl _ (Int×Int))=>match o15 with
  | .ret r=>some r
  | .go _=>none
  | .brk s14=>
  ((sidx (ByteArray.mk #[0,1,2,2,3,3,3,3,4,4,4,4,4,4,4,4,5,5,5,5,5,5,5,5,5,5,5,5,5,5,5,5,6,6,6,6,6,6,6,6,6,6,6,6,6,6,6,6,6,6,6,6,6,6,6,6,6,6,6,6,6,6,6,6,7,7,7,7,7,7,7,7,7,7,7,7,7,7,7,7,7,7,7,7,7,7,7,7,7,7,7,7,7,7,7,7,7,7,7,7,7,7,7,7,7,7,7,7,7,7,7,7,7,7,7,7,7,7,7,7,7,7,7,7,7,7,7,7,8,8,8,8,8,8,8,8,8,8,8,8,8,8,8,8,8,8,8,8,8,8,8,8,8,8,8,8,8,8,8,8,8,8,8,8,8,8,8,8,8,8,8,8,8,8,8,8,8,8,8,8,8,8,8,8,8,8,8,8,8,8,8,8,8,8,8,8,8,8,8,8,8,8,8,8,8,8,8,8,8,8,8,8,8,8,8,8,8,8,8,8,8,8,8,8,8,8,8,8,8,8,8,8,8,8,8,8,8,8,8,8,8,8,8,8,8,8,8,8,8,8,8,8,8,8,8,8]) (wcv .u8 s14.1)).bind fun x19=>
  some (wadd .i64 s14.2 (wcv .i64 x19))))))
def Q7l (p0:Int):Option (Int):=
  ((Q80 p0).bind fun r1=>
  some (r1))
def Q0r:Nat→(List Q2)→Int→Int→Int→(Q2→Q2→Option Int)→Option ((List Q2))
 | 0,_,_,_,_,_=>none
 | n+1,p0,p1,p2,p3,p4=>
  ((whileL (fun (s12:Unit)=>
  (if (ile (wsub .i64 p2 p1) 12)=true then
  ((Y2 n p0 p1 p2 p4).bind fun r28=>
  ((chk (decide ((r28).length=(p0).length))).bind fun x29=>
  some (Ctl.ret (r28))))
  else
  (if (ieq p3 0)=true then
  none
  else
  none))) n ()).bind fun (o11:Ctl _ (Unit))=>match o11 with
  | .ret r=>some r
  | .go _=>none
  | .brk s22=>
  some (p0))
def Y6 (n:Nat)(p0:(List Q2))(p1:(Q2→Q2→Option Int)):Option ((List Q2)):=
  ((Q7l (wcv .u64 (lenZ p0.length))).bind fun r1=>
  ((Q0r n p0 0 (lenZ p0.length) r1 p1).bind fun r2=>
  ((chk (decide ((r2).length=(p0).length))).bind fun x3=>
  some (r2))))
def Q5w (p0:Int):Option (Bool):=
  some (!ieq p0 p0)
def Q2z (p0:Int)(p1:Int):Option (Int):=
  ((Q5w p0).bind fun r1=>
  ((Q5w p1).bind fun r2=>
  (if r1=true then
  (if r2=true then
  some (0)
  else
  some ((-1)))
  else
  (if r2=true then
  some (1)
  else
  (if (ilt p0 p1)=true then
  some ((-1))
  else
  (if (ilt p1 p0)=true then
  some (1)
  else
  some (0)))))))
def Q3u (p0:Q2)(p1:Q2):Option (Int):=
  ((Q2z p0.var p1.var).bind fun r1=>
  some (r1))
def Q1b (n:Nat)(p0:(List Q4))(p1:Q6)(p2:(List Q3)):Option ((List X0)×Bool):=
  ((Q1y n p0 p1 p2).bind fun r3=>
  (if (!r3)=true then
  some (([],false))
  else
  ((Q1a n p2).bind fun r5=>
  (if (!r5.2)=true then
  some (([],false))
  else
  ((forL (fun k8573 x8574 (s8569:(List X0))=>
  ((forL (fun k10106 x10107 (s10102:(List X0))=>
  ((Q76 n x10107 [] s10102 []).bind fun r10175=>
  ((Y6 n r10175.2 (fun a0 a1=>Q3u a0 a1)).bind fun r10176=>
  ((chk (decide ((r10176).length=(r10175.2).length))).bind fun x10177=>
  ((whileL (fun (s10223:(List X0)×Int)=>
  (if (ilt s10223.2 (lenZ s10223.1.length))=true then
  ((idx s10223.1 s10223.2).bind fun x10236=>
  ((setI s10223.1 s10223.2 (X0.mk x10236.op x10236.path x10236.ctor x10236.n x10236.m x10236.clause x10236.binds (wadd .i64 (lenZ s10223.1.length) 1))).bind fun x10237=>
  some (Ctl.go (x10237,wadd .i64 s10223.2 1))))
  else
  some (Ctl.brk (s10223.1,s10223.2)))) n (r10175.1,lenZ s10102.length)).bind fun (o10222:Ctl _ ((List X0)×Int))=>match o10222 with
  | .ret r=>some r
  | .go _=>none
  | .brk s10231=>
  ((app s10231.1 [(X0.mk 2 [] 0 0 0 (k8573:Int) r10176 0)]).bind fun x10238=>
  some (Ctl.go (s10231.1++[(X0.mk 2 [] 0 0 0 (k8573:Int) r10176 0)])))))))) 0 x8574 s8569).bind fun (o10101:Ctl _ ((List X0)))=>match o10101 with
  | .ret r=>some r
  | .go _=>none
  | .brk s10110=>
  ((whileL (fun (s10264:(List X0)×Int)=>
  (if (ilt s10264.2 (lenZ s10264.1.length))=true then
  ((((idx s10264.1 s10264.2).bind fun x10281=>
  (if (ieq x10281.op 2)=true then
  ((setI s10264.1 s10264.2 (X0.mk x10281.op x10281.path x10281.ctor x10281.n x10281.m x10281.clause x10281.binds (lenZ s10264.1.length))).bind fun x10283=>
  some (Ctl.brk x10283))
  else
  some (Ctl.brk s10264.1)))).bind fun (o10279:Ctl _ ((List X0)))=>match o10279 with
  | .ret r=>some r
  | .go _=>none
  | .brk s10278=>
  some (Ctl.go (s10278,wadd .i64 s10264.2 1)))
  else
  some (Ctl.brk (s10264.1,s10264.2)))) n (s10110,lenZ s8569.length)).bind fun (o10263:Ctl _ ((List X0)×Int))=>match o10263 with
  | .ret r=>some r
  | .go _=>none
  | .brk s10272=>
  some (Ctl.go s10272.1)))) 0 r5.1 []).bind fun (o8568:Ctl _ ((List X0)))=>match o8568 with
  | .ret r=>some r
  | .go _=>none
  | .brk s8577=>
  ((app s8577 [(X0.mk 3 [] 0 0 0 0 [] 0)]).bind fun x10284=>
  some (((s8577++[(X0.mk 3 [] 0 0 0 0 [] 0)]),true))))))))
def Q55 (p0:Q1)(p1:(List Int)):Option (Q1):=
  ((forL (fun k50 x51 (s44:Q1)=>
  ((idx s44.kids x51).bind fun x56=>
  some (Ctl.go x56))) 0 p1 p0).bind fun (o43:Ctl _ (Q1))=>match o43 with
  | .ret r=>some r
  | .go _=>none
  | .brk s54=>
  some (s54))
def Q29:Nat→Q1→Option (Q1)
 | 0,_=>none
 | n+1,p0=>
  ((forL (fun k70 x71 (s64:(List Q1))=>
  ((Q29 n x71).bind fun r78=>
  ((app s64 [r78]).bind fun x79=>
  some (Ctl.go x79)))) 0 p0.kids []).bind fun (o63:Ctl _ ((List Q1)))=>match o63 with
  | .ret r=>some r
  | .go _=>none
  | .brk s74=>
  some ((Q1.mk p0.ctor p0.n s74)))
def Q4w (n:Nat)(p0:(List Q2))(p1:Q1):Option ((List W9)):=
  ((forL (fun k90 x91 (s84:(List W9))=>
  ((Q55 p1 x91.path).bind fun r100=>
  ((Q29 n r100).bind fun r101=>
  ((app s84 [(W9.mk x91.var r101)]).bind fun x102=>
  some (Ctl.go x102))))) 0 p0 []).bind fun (o83:Ctl _ ((List W9)))=>match o83 with
  | .ret r=>some r
  | .go _=>none
  | .brk s94=>
  some (s94))
def Q1j (p0:(List W9))(p1:(W9→Option Bool)):Option (Int):=
  ((forL (fun k68 x69 (s62:Unit)=>
  ((p1 x69).bind fun r76=>
  (if r76=true then
  some (Ctl.ret ((k68:Int)))
  else
  some (Ctl.go ())))) 0 p0 ()).bind fun (o61:Ctl _ (Unit))=>match o61 with
  | .ret r=>some r
  | .go _=>none
  | .brk s72=>
  some ((-1)))
def Q1x (p0:W9)(q0:Q37):Option (Bool):=
  some (ieq p0.var q0.var)
def Q0a (p0:Q37)(p1:(List W9)):Option (Bool):=
  (if (ieq p0.op 0)=true then
  some (true)
  else
  ((Q1j p1 (fun a0=>Q1x a0 p0)).bind fun r3=>
  (if (ilt r3 0)=true then
  some (false)
  else
  ((idx p1 r3).bind fun x18=>
  (if (!ieq x18.value.ctor (-1))=true then
  some (false)
  else
  (if (ieq p0.op 1)=true then
  (if (ilt x18.value.n p0.n)=true then
  some (true)
  else
  (if (ieq p0.op 2)=true then
  some (ieq x18.value.n p0.n)
  else
  some (false)))
  else
  (if (ieq p0.op 2)=true then
  some (ieq x18.value.n p0.n)
  else
  some (false))))))))
def Q2t (p0:Int)(p1:Int)(p2:Int)(p3:Q1):Option (Bool):=
  (if (ieq p0 p3.ctor)=true then
  (if (!ieq p0 (-1))=true then
  some (true)
  else
  ((J0 p3.n p1 p2).bind fun r7=>
  some (r7)))
  else
  some (false))
def Q28 (n:Nat)(p0:(List X0))(p1:(List Q3))(p2:Q1)(p3:(X0→Option Unit)):Option (Int×(List W9)×Int):=
  ((whileL (fun (s94:Int×Int)=>
  ((idx p0 s94.2).bind fun x105=>
  (if (ieq x105.op 3)=true then
  some (Ctl.ret (((-1),[],s94.1)))
  else
  ((p3 x105).bind fun r108=>
  (if (ieq x105.op 1)=true then
  ((((Q55 p2 x105.path).bind fun r134=>
  ((Q2t x105.ctor x105.n x105.m r134).bind fun r135=>
  (if (!r135)=true then
  some (Ctl.brk x105.to)
  else
  some (Ctl.brk (wadd .i64 s94.2 1)))))).bind fun (o131:Ctl _ (Int))=>match o131 with
  | .ret r=>some r
  | .go _=>none
  | .brk s130=>
  some (Ctl.go (wadd .i64 s94.1 1,s130)))
  else
  ((Q4w n x105.binds p2).bind fun r139=>
  ((idx p1 x105.clause).bind fun x144=>
  ((Q0a x144.guard r139).bind fun r145=>
  (if r145=true then
  some (Ctl.ret ((x105.clause,r139,s94.1)))
  else
  some (Ctl.go (s94.1,x105.to))))))))))) n (0,0)).bind fun (o93:Ctl _ (Int×Int))=>match o93 with
  | .ret r=>some r
  | .go _=>none
  | .brk s104=>
  none)
def Q4j (p0:(List (List Q0))):Option ((List (List Q0))):=
  ((forL (fun k12480 x12481 (s12474:(List (List Q0)))=>
  ((forL (fun k13906 x13907 (s13900:(List (List Q0)))=>
  (if (ile (lenZ s13900.length) 400)=true then
  ((forL (fun k14008 x14009 (s14002:(List (List Q0)))=>
  (if (ile (lenZ s14002.length) 400)=true then
  ((app [] x13907).bind fun x14018=>
  ((app x13907 [x14009]).bind fun x14019=>
  ((app s14002 [x14019]).bind fun x14020=>
  some (Ctl.go (s14002++[x14019])))))
  else
  some (Ctl.brk s14002))) 0 x12481 s13900).bind fun (o14001:Ctl _ ((List (List Q0))))=>match o14001 with
  | .ret r=>some r
  | .go _=>none
  | .brk s14012=>
  some (Ctl.go s14012))
  else
  some (Ctl.brk s13900))) 0 s12474 []).bind fun (o13899:Ctl _ ((List (List Q0))))=>match o13899 with
  | .ret r=>some r
  | .go _=>none
  | .brk s13910=>
  some (Ctl.go s13910))) 0 p0 [[]]).bind fun (o12473:Ctl _ ((List (List Q0))))=>match o12473 with
  | .ret r=>some r
  | .go _=>none
  | .brk s12484=>
  some (s12484))
def Y5:Nat→Q0→Option ((List Q0))
 | 0,_=>none
 | n+1,p0=>
  (if (ieq p0.op 5)=true then
  ((idx p0.kids 0).bind fun x14=>
  ((idx p0.kids 1).bind fun x15=>
  ((Y5 n x14).bind fun r16=>
  ((Y5 n x15).bind fun r17=>
  ((app r16 r17).bind fun x18=>
  (if (ilt 401 (lenZ x18.length))=true then
  ((Q7q x18 401).bind fun x22=>
  some (x22))
  else
  some (x18)))))))
  else
  ((forL (fun k94 x95 (s88:(List (List Q0)))=>
  ((Y5 n x95).bind fun r102=>
  ((app s88 [r102]).bind fun x103=>
  some (Ctl.go (s88++[r102]))))) 0 p0.kids []).bind fun (o87:Ctl _ ((List (List Q0))))=>match o87 with
  | .ret r=>some r
  | .go _=>none
  | .brk s98=>
  ((Q4j s98).bind fun r105=>
  ((forL (fun k155 x156 (s149:(List Q0))=>
  ((app s149 [(Q0.mk p0.op p0.ctor p0.n p0.m p0.var x156)]).bind fun x161=>
  some (Ctl.go x161))) 0 r105 []).bind fun (o148:Ctl _ ((List Q0)))=>match o148 with
  | .ret r=>some r
  | .go _=>none
  | .brk s159=>
  some (s159)))))
def Q2n (n:Nat)(p0:(List Q2)):Option ((List Q2)):=
  ((whileL (fun (s548:(List Q2)×Int)=>
  (if (ile s548.2 5)=true then
  ((forL (fun k650 x651 (s644:(List Q2))=>
  (((if (ieq x651.var s548.2)=true then
  ((app [] x651.path).bind fun x663=>
  ((app s644 [(Q2.mk s548.2 x651.path)]).bind fun x664=>
  some (Ctl.brk (s644++[(Q2.mk s548.2 x651.path)]))))
  else
  some (Ctl.brk s644))).bind fun (o659:Ctl _ ((List Q2)))=>match o659 with
  | .ret r=>some r
  | .go _=>none
  | .brk s658=>
  some (Ctl.go s658))) 0 p0 s548.1).bind fun (o643:Ctl _ ((List Q2)))=>match o643 with
  | .ret r=>some r
  | .go _=>none
  | .brk s654=>
  some (Ctl.go (s654,wadd .i64 s548.2 1)))
  else
  some (Ctl.brk (s548.1,s548.2)))) n ([],0)).bind fun (o547:Ctl _ ((List Q2)×Int))=>match o547 with
  | .ret r=>some r
  | .go _=>none
  | .brk s558=>
  some (s558.1))
def Q50 (p0:(List Int))(p1:Int):Option ((List Int)):=
  ((app [] p0).bind fun x1=>
  ((app p0 [p1]).bind fun x2=>
  some (x2)))
def Q5d:Nat→(List Q2)→Q0→(List Int)→Option ((List Q2))
 | 0,_,_,_=>none
 | n+1,p0,p1,p2=>
  (((if (ieq p1.op 2)=true then
  ((app [] p2).bind fun x26=>
  ((app p0 [(Q2.mk p1.var p2)]).bind fun x27=>
  some (Ctl.brk (p0++[(Q2.mk p1.var p2)]))))
  else
  (if (ieq p1.op 6)=true then
  ((app [] p2).bind fun x29=>
  ((app p0 [(Q2.mk p1.var p2)]).bind fun x30=>
  some (Ctl.brk (p0++[(Q2.mk p1.var p2)]))))
  else
  some (Ctl.brk p0)))).bind fun (o15:Ctl _ ((List Q2)))=>match o15 with
  | .ret r=>some r
  | .go _=>none
  | .brk s14=>
  ((forL (fun k190 x191 (s184:(List Q2))=>
  (((if (ieq p1.op 4)=true then
  ((Q50 p2 (k190:Int)).bind fun r215=>
  some (Ctl.brk r215))
  else
  some (Ctl.brk p2))).bind fun (o211:Ctl _ ((List Int)))=>match o211 with
  | .ret r=>some r
  | .go _=>none
  | .brk s210=>
  ((Q5d n s184 x191 s210).bind fun r217=>
  some (Ctl.go r217)))) 0 p1.kids s14).bind fun (o183:Ctl _ ((List Q2)))=>match o183 with
  | .ret r=>some r
  | .go _=>none
  | .brk s194=>
  some (s194)))
def Q3z:Nat→(List X0)→Q0→(List Int)→Option ((List X0))
 | 0,_,_,_=>none
 | n+1,p0,p1,p2=>
  (((if (ieq p1.op 6)=true then
  ((idx p1.kids 0).bind fun x62=>
  ((Q3z n p0 x62 p2).bind fun r63=>
  some (Ctl.ret (r63))))
  else
  (if (ieq p1.op 3)=true then
  ((app [] p2).bind fun x66=>
  ((app p0 [(X0.mk 1 p2 (-1) p1.n p1.m 0 [] 0)]).bind fun x67=>
  some (Ctl.ret ((p0++[(X0.mk 1 p2 (-1) p1.n p1.m 0 [] 0)])))))
  else
  (if (ieq p1.op 4)=true then
  ((app [] p2).bind fun x69=>
  ((app p0 [(X0.mk 1 p2 p1.ctor 0 0 0 [] 0)]).bind fun x70=>
  ((forL (fun k104 x105 (s98:(List X0))=>
  ((Q50 p2 (k104:Int)).bind fun r113=>
  ((Q3z n s98 x105 r113).bind fun r114=>
  some (Ctl.go r114)))) 0 p1.kids (p0++[(X0.mk 1 p2 p1.ctor 0 0 0 [] 0)])).bind fun (o97:Ctl _ ((List X0)))=>match o97 with
  | .ret r=>some r
  | .go _=>none
  | .brk s108=>
  some (Ctl.brk s108))))
  else
  some (Ctl.brk p0))))).bind fun (o58:Ctl _ ((List X0)))=>match o58 with
  | .ret r=>some r
  | .go _=>none
  | .brk s57=>
  some (s57))
def Q6p (n:Nat)(p0:(List Q3)):Option ((List X0)):=
  ((forL (fun k5680 x5681 (s5674:(List X0))=>
  ((Y5 n x5681.pat).bind fun r6249=>
  ((forL (fun k6679 x6680 (s6673:(List X0))=>
  ((Q3z n s6673 x6680 []).bind fun r6723=>
  ((Q5d n [] x6680 []).bind fun r6724=>
  ((Q2n n r6724).bind fun r6725=>
  ((app r6723 [(X0.mk 2 [] 0 0 0 (k5680:Int) r6725 0)]).bind fun x6726=>
  ((whileL (fun (s6742:(List X0)×Int)=>
  (if (ilt s6742.2 (lenZ s6742.1.length))=true then
  ((idx s6742.1 s6742.2).bind fun x6757=>
  ((setI s6742.1 s6742.2 (X0.mk x6757.op x6757.path x6757.ctor x6757.n x6757.m x6757.clause x6757.binds (lenZ s6742.1.length))).bind fun x6758=>
  some (Ctl.go (x6758,wadd .i64 s6742.2 1))))
  else
  some (Ctl.brk (s6742.1,s6742.2)))) n ((r6723++[(X0.mk 2 [] 0 0 0 (k5680:Int) r6725 0)]),lenZ s6673.length)).bind fun (o6741:Ctl _ ((List X0)×Int))=>match o6741 with
  | .ret r=>some r
  | .go _=>none
  | .brk s6752=>
  some (Ctl.go s6752.1))))))) 0 r6249 s5674).bind fun (o6672:Ctl _ ((List X0)))=>match o6672 with
  | .ret r=>some r
  | .go _=>none
  | .brk s6683=>
  ((whileL (fun (s6789:(List X0)×Int)=>
  (if (ilt s6789.2 (lenZ s6789.1.length))=true then
  ((((idx s6789.1 s6789.2).bind fun x6809=>
  (if (ieq x6809.op 2)=true then
  ((setI s6789.1 s6789.2 (X0.mk x6809.op x6809.path x6809.ctor x6809.n x6809.m x6809.clause x6809.binds (lenZ s6789.1.length))).bind fun x6811=>
  some (Ctl.brk x6811))
  else
  some (Ctl.brk s6789.1)))).bind fun (o6806:Ctl _ ((List X0)))=>match o6806 with
  | .ret r=>some r
  | .go _=>none
  | .brk s6805=>
  some (Ctl.go (s6805,wadd .i64 s6789.2 1)))
  else
  some (Ctl.brk (s6789.1,s6789.2)))) n (s6683,lenZ s5674.length)).bind fun (o6788:Ctl _ ((List X0)×Int))=>match o6788 with
  | .ret r=>some r
  | .go _=>none
  | .brk s6799=>
  some (Ctl.go s6799.1))))) 0 p0 []).bind fun (o5673:Ctl _ ((List X0)))=>match o5673 with
  | .ret r=>some r
  | .go _=>none
  | .brk s5684=>
  ((app s5684 [(X0.mk 3 [] 0 0 0 0 [] 0)]).bind fun x6813=>
  some ((s5684++[(X0.mk 3 [] 0 0 0 0 [] 0)]))))
def Q9c (p0:(List Q4))(p1:Q6):Option (Bool):=
  ((Q9w (lenZ p0.length) p1).bind fun r5=>
  (if r5=true then
  some (ile 0 p1.index)
  else
  some (false)))
def Q3g (n:Nat)(p0:(List Q4))(p1:Q6):Option (Bool):=
  ((Q2w n p0).bind fun r7=>
  (if r7=true then
  ((Q9c p0 p1).bind fun r9=>
  some (r9))
  else
  some (false)))
def Q5e (p0:Q37)(p1:(List Z2)):Option (Bool):=
  (if (ieq p0.op 0)=true then
  (if (ieq p0.var 0)=true then
  some (ieq p0.n 0)
  else
  some (false))
  else
  (((if (!ieq p0.op 1)=true then
  (if (!ieq p0.op 2)=true then
  some (Ctl.ret (false))
  else
  (if (ilt p0.n 0)=true then
  some (Ctl.ret (false))
  else
  (if (ilt 9 p0.n)=true then
  some (Ctl.ret (false))
  else
  some (Ctl.brk ()))))
  else
  (if (ilt p0.n 0)=true then
  some (Ctl.ret (false))
  else
  (if (ilt 9 p0.n)=true then
  some (Ctl.ret (false))
  else
  some (Ctl.brk ()))))).bind fun (o24:Ctl _ (Unit))=>match o24 with
  | .ret r=>some r
  | .go _=>none
  | .brk s23=>
  ((Q3n p1 p0.var).bind fun r43=>
  (if (ile 0 r43)=true then
  ((idx p1 r43).bind fun x47=>
  some (ieq x47.typ.data (-1)))
  else
  some (false)))))
def Q99 (n:Nat)(p0:(List Q4))(p1:Q6)(p2:Q3):Option (Bool):=
  ((Q7y n p0 p1 p2.pat).bind fun r9=>
  (if r9=true then
  ((Q17 n [] p0 p1 p2.pat).bind fun r11=>
  ((Q5e p2.guard r11).bind fun r12=>
  some (r12)))
  else
  some (false)))
def Q19 (n:Nat)(p0:(List Q4))(p1:Q6)(p2:(List Q3)):Option (Bool):=
  ((Q3g n p0 p1).bind fun r24=>
  (if (!r24)=true then
  some (false)
  else
  (if (ilt 8 (lenZ p2.length))=true then
  some (false)
  else
  ((forL (fun k95 x96 (s89:Unit)=>
  ((Q99 n p0 p1 x96).bind fun r103=>
  (if (!r103)=true then
  some (Ctl.ret (false))
  else
  some (Ctl.go ())))) 0 p2 ()).bind fun (o88:Ctl _ (Unit))=>match o88 with
  | .ret r=>some r
  | .go _=>none
  | .brk s99=>
  some (true)))))
def Q1w (n:Nat)(p0:(List Q4))(p1:Q6)(p2:(List Q3)):Option ((List X0)×Bool):=
  ((Q19 n p0 p1 p2).bind fun r4=>
  (if (!r4)=true then
  some (([],false))
  else
  ((forL (fun k73 x74 (s67:Unit)=>
  ((Y5 n x74.pat).bind fun r81=>
  (if (ilt 40 (lenZ r81.length))=true then
  some (Ctl.ret (([],false)))
  else
  some (Ctl.go ())))) 0 p2 ()).bind fun (o66:Ctl _ (Unit))=>match o66 with
  | .ret r=>some r
  | .go _=>none
  | .brk s77=>
  ((Q6p n p2).bind fun r84=>
  some ((r84,true))))))
def Q3q:Nat→Q1→Option (Q1)
 | 0,_=>none
 | n+1,p0=>
  ((forL (fun k70 x71 (s64:(List Q1))=>
  ((Q3q n x71).bind fun r78=>
  ((app s64 [r78]).bind fun x79=>
  some (Ctl.go x79)))) 0 p0.kids []).bind fun (o63:Ctl _ ((List Q1)))=>match o63 with
  | .ret r=>some r
  | .go _=>none
  | .brk s74=>
  some ((Q1.mk p0.ctor p0.n s74)))
def Q5q (p0:Q1)(p1:(List Int)):Option (Q1):=
  ((forL (fun k50 x51 (s44:Q1)=>
  ((idx s44.kids x51).bind fun x56=>
  some (Ctl.go x56))) 0 p1 p0).bind fun (o43:Ctl _ (Q1))=>match o43 with
  | .ret r=>some r
  | .go _=>none
  | .brk s54=>
  some (s54))
def Q32 (n:Nat)(p0:(List Q2))(p1:Q1):Option ((List W9)):=
  ((forL (fun k90 x91 (s84:(List W9))=>
  ((Q5q p1 x91.path).bind fun r100=>
  ((Q3q n r100).bind fun r101=>
  ((app s84 [(W9.mk x91.var r101)]).bind fun x102=>
  some (Ctl.go x102))))) 0 p0 []).bind fun (o83:Ctl _ ((List W9)))=>match o83 with
  | .ret r=>some r
  | .go _=>none
  | .brk s94=>
  some (s94))
def Q1v (p0:Q37)(p1:(List W9)):Option (Bool):=
  (if (ieq p0.op 0)=true then
  some (true)
  else
  ((forL (fun k188 x189 (s182:Unit)=>
  (((if (!ieq x189.var p0.var)=true then
  some (Ctl.brk ())
  else
  (if (ieq x189.value.ctor (-1))=true then
  (if (ieq p0.op 1)=true then
  (if (ilt x189.value.n p0.n)=true then
  some (Ctl.ret (Ctl.ret (true)))
  else
  (if (ieq p0.op 2)=true then
  some (Ctl.ret (Ctl.ret (ieq x189.value.n p0.n)))
  else
  some (Ctl.ret (Ctl.ret (false)))))
  else
  (if (ieq p0.op 2)=true then
  some (Ctl.ret (Ctl.ret (ieq x189.value.n p0.n)))
  else
  some (Ctl.ret (Ctl.ret (false)))))
  else
  some (Ctl.ret (Ctl.ret (false)))))).bind fun (o206:Ctl _ (Unit))=>match o206 with
  | .ret r=>some r
  | .go _=>none
  | .brk s205=>
  some (Ctl.go ()))) 0 p1 ()).bind fun (o181:Ctl _ (Unit))=>match o181 with
  | .ret r=>some r
  | .go _=>none
  | .brk s192=>
  some (false)))
def Q5o (p0:X0)(p1:Q1):Option (Bool):=
  (if (ieq p1.ctor p0.ctor)=true then
  (if (!ieq p0.ctor (-1))=true then
  some (true)
  else
  (if (ile p0.n p1.n)=true then
  some (ile p1.n p0.m)
  else
  some (false)))
  else
  some (false))
def Q4u (n:Nat)(p0:(List Q3))(p1:(List X0))(p2:Q1):Option (Int×(List W9)×(List (List Int))):=
  ((whileL (fun (s69:Int×(List (List Int)))=>
  ((idx p1 s69.1).bind fun x82=>
  (if (!ieq x82.op 3)=true then
  (if (ieq x82.op 2)=true then
  ((Q32 n x82.binds p2).bind fun r96=>
  ((idx p0 x82.clause).bind fun x101=>
  ((Q1v x101.guard r96).bind fun r102=>
  (if r102=true then
  some (Ctl.ret ((x82.clause,r96,s69.2)))
  else
  some (Ctl.go (x82.to,s69.2))))))
  else
  ((app s69.2 [x82.path]).bind fun x106=>
  ((Q5q p2 x82.path).bind fun r107=>
  ((Q5o x82 r107).bind fun r108=>
  (if r108=true then
  some (Ctl.go (wadd .i64 s69.1 1,x106))
  else
  some (Ctl.go (x82.to,x106)))))))
  else
  some (Ctl.brk (s69.1,s69.2))))) n (0,[])).bind fun (o68:Ctl _ (Int×(List (List Int))))=>match o68 with
  | .ret r=>some r
  | .go _=>none
  | .brk s79=>
  some (((-1),[],s79.2)))
def Q0f (p0:(List Q2)):Option ((List Q2)):=
  ((app [] p0).bind fun x3=>
  some (p0))
def Q2y  : Option (Q0):=
  some ((Q0.mk 1 0 0 0 0 []))
def Q2g (n:Nat)(p0:Grow)(p1:Q0)(p2:(List Int)):Option (Grow):=
  ((whileL (fun (s50:(List Q2)×Q0)=>
  (((if (ieq s50.2.op 6)=true then
  some (Ctl.brk ())
  else
  (if (ieq s50.2.op 2)=true then
  some (Ctl.brk ())
  else
  some (Ctl.ret (Ctl.brk (s50.1,s50.2)))))).bind fun (o67:Ctl _ (Unit))=>match o67 with
  | .ret r=>some r
  | .go _=>none
  | .brk s66=>
  ((Q0f s50.1).bind fun r75=>
  ((V8 p2).bind fun r76=>
  ((app r75 [(Q2.mk s50.2.var r76)]).bind fun x77=>
  (if (ieq s50.2.op 2)=true then
  ((Q2y).bind fun r79=>
  some (Ctl.go ((r75++[(Q2.mk s50.2.var r76)]),r79)))
  else
  ((idx s50.2.kids 0).bind fun x81=>
  some (Ctl.go ((r75++[(Q2.mk s50.2.var r76)]),x81))))))))) n (p0.binds,p1)).bind fun (o49:Ctl _ ((List Q2)×Q0))=>match o49 with
  | .ret r=>some r
  | .go _=>none
  | .brk s60=>
  ((Q07 p0.pats).bind fun r84=>
  ((app r84 [s60.2]).bind fun x85=>
  some ((Grow.mk p0.clause x85 s60.1)))))
def Q59 (p0:(List Int))(p1:Q6):Option (Int):=
  (if (ieq p1.data (-1))=true then
  some (1)
  else
  ((X4s 4 4 p0 p1.data p1.index).bind fun x3=>
  some (x3)))
def Q11 (p0:(List Int))(p1:(List Q4))(p2:Q6)(p3:Int):Option (Int):=
  ((Q15 p1 p2 p3).bind fun r49=>
  ((forL (fun k83 x84 (s77:Int)=>
  ((Q59 p0 x84).bind fun r92=>
  (if (ieq r92 0)=true then
  some (Ctl.ret (0))
  else
  some (Ctl.go (imax s77 r92))))) 0 r49 0).bind fun (o76:Ctl _ (Int))=>match o76 with
  | .ret r=>some r
  | .go _=>none
  | .brk s87=>
  some (wadd .i64 s87 1)))
def Q5v (n:Nat)(p0:(List Q4)):Option ((List Int)):=
  ((whileL (fun (s38729:(List Int)×Bool)=>
  (if s38729.2=true then
  ((forL (fun k43904 x43905 (s43898:(List Int)×Bool)=>
  ((whileL (fun (s46048:(List Int)×Bool×Int)=>
  (if (ile s46048.2.2 3)=true then
  ((Q14 p0 (Q6.mk (k43904:Int) s46048.2.2)).bind fun r46272=>
  ((forL (fun k46415 x46416 (s46409:(List Int)×Bool)=>
  ((((Q11 s46409.1 p0 (Q6.mk (k43904:Int) s46048.2.2) x46416).bind fun r46453=>
  (if (ilt 0 r46453)=true then
  ((Q59 s46409.1 (Q6.mk (k43904:Int) s46048.2.2)).bind fun r46472=>
  (if (ieq r46472 0)=true then
  ((X4o 4 4 s46409.1 (k43904:Int) s46048.2.2 r46453).bind fun x46474=>
  some (Ctl.brk (x46474,true)))
  else
  ((Q59 s46409.1 (Q6.mk (k43904:Int) s46048.2.2)).bind fun r46476=>
  (if (ilt r46453 r46476)=true then
  ((X4o 4 4 s46409.1 (k43904:Int) s46048.2.2 r46453).bind fun x46478=>
  some (Ctl.brk (x46478,true)))
  else
  some (Ctl.brk (s46409.1,s46409.2))))))
  else
  some (Ctl.brk (s46409.1,s46409.2))))).bind fun (o46450:Ctl _ ((List Int)×Bool))=>match o46450 with
  | .ret r=>some r
  | .go _=>none
  | .brk s46449=>
  some (Ctl.go (s46449.1,s46449.2)))) 0 r46272 (s46048.1,s46048.2.1)).bind fun (o46408:Ctl _ ((List Int)×Bool))=>match o46408 with
  | .ret r=>some r
  | .go _=>none
  | .brk s46419=>
  some (Ctl.go (s46419.1,s46419.2,wadd .i64 s46048.2.2 1))))
  else
  some (Ctl.brk (s46048.1,s46048.2.1,s46048.2.2)))) n (s43898.1,s43898.2,0)).bind fun (o46047:Ctl _ ((List Int)×Bool×Int))=>match o46047 with
  | .ret r=>some r
  | .go _=>none
  | .brk s46058=>
  some (Ctl.go (s46058.1,s46058.2.1)))) 0 p0 (s38729.1,false)).bind fun (o43897:Ctl _ ((List Int)×Bool))=>match o43897 with
  | .ret r=>some r
  | .go _=>none
  | .brk s43908=>
  some (Ctl.go (s43908.1,s43908.2)))
  else
  some (Ctl.brk (s38729.1,s38729.2)))) n ([0,0,0,0,0,0,0,0,0,0,0,0,0,0,0,0],true)).bind fun (o38728:Ctl _ ((List Int)×Bool))=>match o38728 with
  | .ret r=>some r
  | .go _=>none
  | .brk s38739=>
  some (s38739.1))
def Q58 (n:Nat)(p0:(List Q4)):Option (Z1o):=
  ((Q5v n p0).bind fun r1=>
  some ((Z1o.mk p0 r1)))
def J2 (n:Nat)(p0:X3)(p1:(List Grow))(p2:(List Z5))(p3:Int):Option ((List Z3)×X3):=
  ((idx p2 p3).bind fun x1=>
  (if (!ieq x1.t.data (-1))=true then
  ((Q14 p0.spaces.w x1.t).bind fun r184=>
  ((forL (fun k226 x227 (s220:(List Z3))=>
  ((((Q11 p0.spaces.d p0.spaces.w x1.t x227).bind fun r239=>
  (if (ilt 0 r239)=true then
  ((app s220 [(Z3.mk x227 0 0 (W3.mk 0 0 [] [] [] []))]).bind fun x241=>
  some (Ctl.brk (s220++[(Z3.mk x227 0 0 (W3.mk 0 0 [] [] [] []))])))
  else
  some (Ctl.brk s220)))).bind fun (o236:Ctl _ ((List Z3)))=>match o236 with
  | .ret r=>some r
  | .go _=>none
  | .brk s235=>
  some (Ctl.go s235))) 0 r184 []).bind fun (o219:Ctl _ ((List Z3)))=>match o219 with
  | .ret r=>some r
  | .go _=>none
  | .brk s230=>
  some ((s230,p0))))
  else
  ((forL (fun k343 x344 (s337:(List Bool))=>
  ((((idx x344.pats p3).bind fun x356=>
  (if (ieq x356.op 3)=true then
  ((aset 11 s337 x356.n true).bind fun x358=>
  ((aset 11 x358 (wadd .i64 x356.m 1) true).bind fun x359=>
  some (Ctl.brk x359)))
  else
  some (Ctl.brk s337)))).bind fun (o353:Ctl _ ((List Bool)))=>match o353 with
  | .ret r=>some r
  | .go _=>none
  | .brk s352=>
  some (Ctl.go s352))) 0 p1 [false,false,false,false,false,false,false,false,false,false,true]).bind fun (o336:Ctl _ ((List Bool)))=>match o336 with
  | .ret r=>some r
  | .go _=>none
  | .brk s347=>
  ((whileL (fun (s439:(List Z3)×Int×Int)=>
  (if (ile s439.2.2 10)=true then
  ((((aget 11 s347 s439.2.2).bind fun x459=>
  (if x459=true then
  ((app s439.1 [(Z3.mk (-1) s439.2.1 (wsub .i64 s439.2.2 1) (W3.mk 0 0 [] [] [] []))]).bind fun x461=>
  some (Ctl.brk ((s439.1++[(Z3.mk (-1) s439.2.1 (wsub .i64 s439.2.2 1) (W3.mk 0 0 [] [] [] []))]),s439.2.2)))
  else
  some (Ctl.brk (s439.1,s439.2.1))))).bind fun (o456:Ctl _ ((List Z3)×Int))=>match o456 with
  | .ret r=>some r
  | .go _=>none
  | .brk s455=>
  some (Ctl.go (s455.1,s455.2,wadd .i64 s439.2.2 1)))
  else
  some (Ctl.brk (s439.1,s439.2.1,s439.2.2)))) n ([],0,1)).bind fun (o438:Ctl _ ((List Z3)×Int×Int))=>match o438 with
  | .ret r=>some r
  | .go _=>none
  | .brk s449=>
  some ((s449.1,p0))))))
def Q0g (n:Nat)(p0:X3)(p1:(List Grow))(p2:(List Z5)):Option (Int×X3):=
  ((forL (fun k1006 x1007 (s1000:X3×Int×Int)=>
  ((((idx p1 0).bind fun x1113=>
  ((idx x1113.pats (k1006:Int)).bind fun x1114=>
  (if (ieq x1114.op 1)=true then
  some (Ctl.brk (s1000.1,s1000.2.1,s1000.2.2))
  else
  (((if (ieq s1000.1.pick 1)=true then
  ((forL (fun k1184 x1185 (s1178:Int)=>
  ((((idx x1185.pats (k1006:Int)).bind fun x1195=>
  (if (!ieq x1195.op 1)=true then
  some (Ctl.brk (wadd .i64 s1178 1))
  else
  some (Ctl.brk s1178)))).bind fun (o1192:Ctl _ (Int))=>match o1192 with
  | .ret r=>some r
  | .go _=>none
  | .brk s1191=>
  some (Ctl.go s1191))) 0 p1 0).bind fun (o1177:Ctl _ (Int))=>match o1177 with
  | .ret r=>some r
  | .go _=>none
  | .brk s1188=>
  some (Ctl.brk (s1000.1,s1188)))
  else
  (if (ieq s1000.1.pick 2)=true then
  ((J2 n s1000.1 p1 p2 (k1006:Int)).bind fun r1198=>
  some (Ctl.brk (r1198.2,wneg .i64 (lenZ r1198.1.length))))
  else
  some (Ctl.brk (s1000.1,0))))).bind fun (o1157:Ctl _ (X3×Int))=>match o1157 with
  | .ret r=>some r
  | .go _=>none
  | .brk s1156=>
  (if (ilt s1000.2.1 0)=true then
  some (Ctl.brk (s1156.1,(k1006:Int),s1156.2))
  else
  (if (ilt s1000.2.2 s1156.2)=true then
  some (Ctl.brk (s1156.1,(k1006:Int),s1156.2))
  else
  some (Ctl.brk (s1156.1,s1000.2.1,s1000.2.2))))))))).bind fun (o1107:Ctl _ (X3×Int×Int))=>match o1107 with
  | .ret r=>some r
  | .go _=>none
  | .brk s1106=>
  some (Ctl.go (s1106.1,s1106.2.1,s1106.2.2)))) 0 p2 (p0,(-1),0)).bind fun (o999:Ctl _ (X3×Int×Int))=>match o999 with
  | .ret r=>some r
  | .go _=>none
  | .brk s1010=>
  some ((s1010.2.1,s1010.1)))
def Q02 (p0:Q2)(p1:Q2):Option (Int):=
  ((Q2z p0.var p1.var).bind fun r1=>
  some (r1))
def Q1o (p0:(List Grow))(p1:(Grow→Option Bool)):Option (Int):=
  ((forL (fun k68 x69 (s62:Unit)=>
  ((p1 x69).bind fun r76=>
  (if r76=true then
  some (Ctl.ret ((k68:Int)))
  else
  some (Ctl.go ())))) 0 p0 ()).bind fun (o61:Ctl _ (Unit))=>match o61 with
  | .ret r=>some r
  | .go _=>none
  | .brk s72=>
  some ((-1)))
def Q0x (n:Nat)(p0:(List Grow))(p1:(Grow→Option Bool)):Option ((List Grow)):=
  ((Q1o p0 p1).bind fun r1=>
  (if (ieq r1 (-1))=true then
  some (p0)
  else
  ((whileL (fun (s113:(List Grow)×Int×Int)=>
  (if (ilt s113.2.2 (lenZ s113.1.length))=true then
  ((((idx s113.1 s113.2.2).bind fun x136=>
  ((p1 x136).bind fun r137=>
  (if (!r137)=true then
  ((idx s113.1 s113.2.1).bind fun x139=>
  ((setI s113.1 s113.2.1 x136).bind fun x140=>
  some (Ctl.brk (x140,wadd .i64 s113.2.1 1))))
  else
  some (Ctl.brk (s113.1,s113.2.1)))))).bind fun (o133:Ctl _ ((List Grow)×Int))=>match o133 with
  | .ret r=>some r
  | .go _=>none
  | .brk s132=>
  some (Ctl.go (s132.1,s132.2,wadd .i64 s113.2.2 1)))
  else
  some (Ctl.brk (s113.1,s113.2.1,s113.2.2)))) n (p0,r1,wadd .i64 r1 1)).bind fun (o112:Ctl _ ((List Grow)×Int×Int))=>match o112 with
  | .ret r=>some r
  | .go _=>none
  | .brk s123=>
  ((Q7q s123.1 s123.2.1).bind fun x142=>
  some (x142)))))
def Q2c (p0:(List Grow)):Option ((List Grow)):=
  ((app [] p0).bind fun x3=>
  some (p0))
def Q01 (p0:Grow)(q0:Grow):Option (Bool):=
  some (ieq p0.clause q0.clause)
def Q4m (n:Nat)(p0:Grow)(p1:Int)(p2:Z3)(p3:(List Z5)):Option (Grow×Bool):=
  ((idx p0.pats p1).bind fun x1=>
  (((if (ieq x1.op 1)=true then
  ((forL (fun k76 x77 (s70:(List Q0))=>
  ((Q2y).bind fun r84=>
  ((app s70 [r84]).bind fun x85=>
  some (Ctl.go x85)))) 0 p3 []).bind fun (o69:Ctl _ ((List Q0)))=>match o69 with
  | .ret r=>some r
  | .go _=>none
  | .brk s80=>
  some (Ctl.brk s80))
  else
  (if (ieq x1.op 3)=true then
  (if (ilt p2.n x1.n)=true then
  some (Ctl.ret (((Grow.mk 0 [] []),false)))
  else
  (if (ilt x1.m p2.m)=true then
  some (Ctl.ret (((Grow.mk 0 [] []),false)))
  else
  some (Ctl.brk x1.kids)))
  else
  (if (!ieq x1.ctor p2.ctor)=true then
  some (Ctl.ret (((Grow.mk 0 [] []),false)))
  else
  some (Ctl.brk x1.kids))))).bind fun (o47:Ctl _ ((List Q0)))=>match o47 with
  | .ret r=>some r
  | .go _=>none
  | .brk s46=>
  ((Q7q p0.pats p1).bind fun x94=>
  ((Q07 x94).bind fun r95=>
  ((forL (fun k169 x170 (s163:Int×(List Q0)×(List Q2))=>
  ((idx p3 (k169:Int)).bind fun x177=>
  ((Q2g n (Grow.mk s163.1 s163.2.1 s163.2.2) x170 x177.path).bind fun r178=>
  some (Ctl.go (r178.clause,r178.pats,r178.binds))))) 0 s46 (p0.clause,r95,p0.binds)).bind fun (o162:Ctl _ (Int×(List Q0)×(List Q2)))=>match o162 with
  | .ret r=>some r
  | .go _=>none
  | .brk s173=>
  ((X0j p0.pats (wadd .i64 p1 1)).bind fun x180=>
  ((app s173.2.1 x180).bind fun x181=>
  some (((Grow.mk s173.1 x181 s173.2.2),true)))))))))
def Q2j (p1:Int):Option ((List Z5)):=
  (if (ilt p1 0)=true then
  none
  else
  (((if (ilt 0 (wsub .i64 p1 (wsub .i64 0 (lenZ 0))))=true then
  ((chk (ieq 0 0)).bind fun x11=>
  ((mkS (wsub .i64 p1 (wsub .i64 0 (lenZ 0))) (Z5.mk [] (Q6.mk 0 0))).bind fun x12=>
  some (Ctl.brk ())))
  else
  some (Ctl.brk ()))).bind fun (o7:Ctl _ (Unit))=>match o7 with
  | .ret r=>some r
  | .go _=>none
  | .brk s6=>
  some ([])))
def Q1p (p0:(List (List Z5))):Option ((List Z5)):=
  ((forL (fun k50 x51 (s44:Int)=>
  (if (ilt (wadd .i64 s44 (lenZ x51.length)) 0)=true then
  none
  else
  some (Ctl.go (wadd .i64 s44 (lenZ x51.length))))) 0 p0 0).bind fun (o43:Ctl _ (Int))=>match o43 with
  | .ret r=>some r
  | .go _=>none
  | .brk s54=>
  ((Q2j s54).bind fun r57=>
  ((forL (fun k107 x108 (s101:(List Z5))=>
  ((app s101 x108).bind fun x113=>
  some (Ctl.go x113))) 0 p0 r57).bind fun (o100:Ctl _ ((List Z5)))=>match o100 with
  | .ret r=>some r
  | .go _=>none
  | .brk s111=>
  some (s111))))
mutual
def Q00:Nat→X3→(List Grow)→(List Z5)→Option (W3×Bool×X3)
 | 0,_,_,_=>none
 | n+1,p0,p1,p2=>
  (if (ilt 300 (wadd .i64 p0.count 1))=true then
  some (((W3.mk 0 0 [] [] [] []),false,(X3.mk p0.spaces p0.list p0.pick (wadd .i64 p0.count 1))))
  else
  (if (ieq (lenZ p1.length) 0)=true then
  some (((W3.mk 0 0 [] [] [] []),true,(X3.mk p0.spaces p0.list p0.pick (wadd .i64 p0.count 1))))
  else
  ((Q0g n (X3.mk p0.spaces p0.list p0.pick (wadd .i64 p0.count 1)) p1 p2).bind fun r5=>
  (if (ilt r5.1 0)=true then
  ((Q1e n r5.2 p1 p2).bind fun r10=>
  some ((r10.1,r10.2.1,r10.2.2)))
  else
  ((idx p2 r5.1).bind fun x12=>
  ((V8 x12.path).bind fun r13=>
  ((J2 n r5.2 p1 p2 r5.1).bind fun r1401=>
  ((forL (fun k2328 x2329 (s2322:X3×(List Z3))=>
  (((if (!ieq x2329.ctor (-1))=true then
  ((Q15 s2322.1.spaces.w x12.t x2329.ctor).bind fun r2614=>
  ((forL (fun k2648 x2649 (s2642:(List Z5))=>
  ((V8 x12.path).bind fun r2657=>
  ((app r2657 [(k2648:Int)]).bind fun x2658=>
  ((app s2642 [(Z5.mk x2658 x2649)]).bind fun x2659=>
  some (Ctl.go (s2642++[(Z5.mk x2658 x2649)])))))) 0 r2614 []).bind fun (o2641:Ctl _ ((List Z5)))=>match o2641 with
  | .ret r=>some r
  | .go _=>none
  | .brk s2652=>
  some (Ctl.brk s2652)))
  else
  some (Ctl.brk []))).bind fun (o2610:Ctl _ ((List Z5)))=>match o2610 with
  | .ret r=>some r
  | .go _=>none
  | .brk s2609=>
  ((forL (fun k2761 x2762 (s2755:(List Grow))=>
  ((((Q4m n x2762 r5.1 x2329 s2609).bind fun r2774=>
  (if r2774.2=true then
  ((app s2755 [r2774.1]).bind fun x2776=>
  some (Ctl.brk x2776))
  else
  some (Ctl.brk s2755)))).bind fun (o2771:Ctl _ ((List Grow)))=>match o2771 with
  | .ret r=>some r
  | .go _=>none
  | .brk s2770=>
  some (Ctl.go s2770))) 0 p1 []).bind fun (o2754:Ctl _ ((List Grow)))=>match o2754 with
  | .ret r=>some r
  | .go _=>none
  | .brk s2765=>
  ((Q7q p2 r5.1).bind fun x2778=>
  ((X0j p2 (wadd .i64 r5.1 1)).bind fun x2779=>
  ((Q1p [x2778,s2609,x2779]).bind fun r2780=>
  ((Q00 n s2322.1 s2765 r2780).bind fun r2781=>
  (if (!r2781.2.1)=true then
  some (Ctl.ret (((W3.mk 0 0 [] [] [] []),false,r2781.2.2)))
  else
  ((app s2322.2 [(Z3.mk x2329.ctor x2329.n x2329.m r2781.1)]).bind fun x2784=>
  some (Ctl.go (r2781.2.2,x2784))))))))))) 0 r1401.1 (r1401.2,[])).bind fun (o2321:Ctl _ (X3×(List Z3)))=>match o2321 with
  | .ret r=>some r
  | .go _=>none
  | .brk s2332=>
  some (((W3.mk 2 0 [] r13 s2332.2 []),true,s2332.1))))))))))
def Q1e:Nat→X3→(List Grow)→(List Z5)→Option (W3×Bool×X3)
 | 0,_,_,_=>none
 | n+1,p0,p1,p2=>
  ((idx p1 0).bind fun x1=>
  ((Q0f x1.binds).bind fun r2=>
  ((Y6 n r2 (fun a0 a1=>Q02 a0 a1)).bind fun r3=>
  ((chk (decide ((r3).length=(r2).length))).bind fun x4=>
  ((idx p0.list x1.clause).bind fun x7=>
  (if (ieq x7.guard.op 0)=true then
  some (((W3.mk 1 x1.clause r3 [] [] []),true,p0))
  else
  ((Q2c p1).bind fun r9=>
  ((Q0x n r9 (fun a0=>Q01 a0 x1)).bind fun r10=>
  ((Q00 n p0 r10 p2).bind fun r11=>
  some (((W3.mk 1 x1.clause r3 [] [] [r11.1]),r11.2.1,r11.2.2)))))))))))
end
def Q4n (p0:(List Q2)):Option ((List Q2)):=
  ((forL (fun k70 x71 (s64:(List Q2))=>
  ((V8 x71.path).bind fun r78=>
  ((app s64 [(Q2.mk x71.var r78)]).bind fun x79=>
  some (Ctl.go (s64++[(Q2.mk x71.var r78)]))))) 0 p0 []).bind fun (o63:Ctl _ ((List Q2)))=>match o63 with
  | .ret r=>some r
  | .go _=>none
  | .brk s74=>
  some (s74))
def Q23:Nat→W3→Option (W3)
 | 0,_=>none
 | n+1,p0=>
  ((Q4n p0.binds).bind fun r1=>
  ((V8 p0.path).bind fun r2=>
  ((forL (fun k72 x73 (s66:(List Z3))=>
  ((Q23 n x73.tree).bind fun r80=>
  ((app s66 [(Z3.mk x73.ctor x73.n x73.m r80)]).bind fun x81=>
  some (Ctl.go x81)))) 0 p0.branches []).bind fun (o65:Ctl _ ((List Z3)))=>match o65 with
  | .ret r=>some r
  | .go _=>none
  | .brk s76=>
  ((forL (fun k152 x153 (s146:(List W3))=>
  ((Q23 n x153).bind fun r160=>
  ((app s146 [r160]).bind fun x161=>
  some (Ctl.go x161)))) 0 p0.else_ []).bind fun (o145:Ctl _ ((List W3)))=>match o145 with
  | .ret r=>some r
  | .go _=>none
  | .brk s156=>
  some ((W3.mk p0.op p0.clause r1 r2 s76 s156))))))
def W8 (n:Nat)(p0:(List Q4))(p1:Q6)(p2:(List Q3))(p3:Int):Option (W3×Bool):=
  ((Q1y n p0 p1 p2).bind fun r34=>
  (if (!r34)=true then
  some (((W3.mk 0 0 [] [] [] []),false))
  else
  ((J0 p3 0 2).bind fun r37=>
  (if (!r37)=true then
  some (((W3.mk 0 0 [] [] [] []),false))
  else
  ((Q1a n p2).bind fun r39=>
  (if (!r39.2)=true then
  some (((W3.mk 0 0 [] [] [] []),false))
  else
  ((forL (fun k481 x482 (s475:(List Grow))=>
  ((forL (fun k555 x556 (s549:(List Grow))=>
  ((Q2g n (Grow.mk (k481:Int) [] []) x556 []).bind fun r563=>
  ((app s549 [r563]).bind fun x564=>
  some (Ctl.go (s549++[r563]))))) 0 x482 s475).bind fun (o548:Ctl _ ((List Grow)))=>match o548 with
  | .ret r=>some r
  | .go _=>none
  | .brk s559=>
  some (Ctl.go s559))) 0 r39.1 []).bind fun (o474:Ctl _ ((List Grow)))=>match o474 with
  | .ret r=>some r
  | .go _=>none
  | .brk s485=>
  ((Q58 n p0).bind fun r566=>
  ((Q00 n (X3.mk r566 p2 p3 0) s485 [(Z5.mk [] p1)]).bind fun r567=>
  (if (!r567.2.1)=true then
  some (((W3.mk 0 0 [] [] [] []),false))
  else
  ((Q23 n r567.1).bind fun r570=>
  some ((r570,true)))))))))))))
def Q13 (p0:(List Z3))(p1:(Z3→Option Bool)):Option (Int):=
  ((forL (fun k68 x69 (s62:Unit)=>
  ((p1 x69).bind fun r76=>
  (if r76=true then
  some (Ctl.ret ((k68:Int)))
  else
  some (Ctl.go ())))) 0 p0 ()).bind fun (o61:Ctl _ (Unit))=>match o61 with
  | .ret r=>some r
  | .go _=>none
  | .brk s72=>
  some ((-1)))
def Q3i (p0:Z3)(q0:Q1):Option (Bool):=
  ((Q2t p0.ctor p0.n p0.m q0).bind fun r1=>
  some (r1))
def Q49 (n:Nat)(p0:W3)(p1:(List Q3))(p2:Q1):Option (Int×(List W9)×Int):=
  ((whileL (fun (s44:W3×Int)=>
  (if (ieq s44.1.op 2)=true then
  ((Q55 p2 s44.1.path).bind fun r56=>
  ((Q13 s44.1.branches (fun a0=>Q3i a0 r56)).bind fun r57=>
  (if (ilt r57 0)=true then
  some (Ctl.ret (((-1),[],wadd .i64 s44.2 1)))
  else
  ((idx s44.1.branches r57).bind fun x60=>
  some (Ctl.go (x60.tree,wadd .i64 s44.2 1))))))
  else
  (if (ieq s44.1.op 1)=true then
  ((Q4w n s44.1.binds p2).bind fun r64=>
  ((idx p1 s44.1.clause).bind fun x69=>
  ((Q0a x69.guard r64).bind fun r70=>
  (if r70=true then
  some (Ctl.ret ((s44.1.clause,r64,s44.2)))
  else
  ((idx s44.1.else_ 0).bind fun x72=>
  some (Ctl.go (x72,s44.2)))))))
  else
  some (Ctl.ret (((-1),[],s44.2)))))) n (p0,0)).bind fun (o43:Ctl _ (W3×Int))=>match o43 with
  | .ret r=>some r
  | .go _=>none
  | .brk s54=>
  none)
def Q2o  : Option (Q0):=
  some ((Q0.mk 1 0 0 0 0 []))
def Q40 (n:Nat)(p0:Y3)(p1:Q0)(p2:(List Int)):Option (Y3×Q0):=
  ((whileL (fun (s16:(List Q2)×Q0)=>
  (if (ieq s16.2.op 6)=true then
  ((app [] s16.1).bind fun x29=>
  ((app [] p2).bind fun x30=>
  ((app s16.1 [(Q2.mk s16.2.var p2)]).bind fun x31=>
  ((idx s16.2.kids 0).bind fun x32=>
  some (Ctl.go ((s16.1++[(Q2.mk s16.2.var p2)]),x32))))))
  else
  some (Ctl.brk (s16.1,s16.2)))) n (p0.binds,p1)).bind fun (o15:Ctl _ ((List Q2)×Q0))=>match o15 with
  | .ret r=>some r
  | .go _=>none
  | .brk s26=>
  (if (ieq s26.2.op 2)=true then
  ((app [] s26.1).bind fun x40=>
  ((app [] p2).bind fun x41=>
  ((app s26.1 [(Q2.mk s26.2.var p2)]).bind fun x42=>
  ((Q2o).bind fun r43=>
  some (((Y3.mk p0.clause p0.pats (s26.1++[(Q2.mk s26.2.var p2)])),r43))))))
  else
  some (((Y3.mk p0.clause p0.pats s26.1),s26.2))))
def Q6q (n:Nat)(p0:Y3)(p1:Q0)(p2:(List Int)):Option (Y3×Q0):=
  ((whileL (fun (s16:(List Q2)×Q0)=>
  (if (ieq s16.2.op 6)=true then
  ((app [] s16.1).bind fun x29=>
  ((app [] p2).bind fun x30=>
  ((app s16.1 [(Q2.mk s16.2.var p2)]).bind fun x31=>
  ((idx s16.2.kids 0).bind fun x32=>
  some (Ctl.go ((s16.1++[(Q2.mk s16.2.var p2)]),x32))))))
  else
  some (Ctl.brk (s16.1,s16.2)))) n (p0.binds,p1)).bind fun (o15:Ctl _ ((List Q2)×Q0))=>match o15 with
  | .ret r=>some r
  | .go _=>none
  | .brk s26=>
  (if (ieq s26.2.op 2)=true then
  ((app [] s26.1).bind fun x40=>
  ((app [] p2).bind fun x41=>
  ((app s26.1 [(Q2.mk s26.2.var p2)]).bind fun x42=>
  ((Q2o).bind fun r43=>
  some (((Y3.mk p0.clause p0.pats (s26.1++[(Q2.mk s26.2.var p2)])),r43))))))
  else
  some (((Y3.mk p0.clause p0.pats s26.1),s26.2))))
def Q60 (n:Nat)(p0:(List Q3)):Option ((List Y3)):=
  ((forL (fun k460 x461 (s454:(List Y3))=>
  ((Y5 n x461.pat).bind fun r507=>
  ((forL (fun k537 x538 (s531:(List Y3))=>
  ((Q40 n (Y3.mk (k460:Int) [] []) x538 []).bind fun r545=>
  ((app s531 [(Y3.mk r545.1.clause [r545.2] r545.1.binds)]).bind fun x546=>
  some (Ctl.go (s531++[(Y3.mk r545.1.clause [r545.2] r545.1.binds)]))))) 0 r507 s454).bind fun (o530:Ctl _ ((List Y3)))=>match o530 with
  | .ret r=>some r
  | .go _=>none
  | .brk s541=>
  some (Ctl.go s541)))) 0 p0 []).bind fun (o453:Ctl _ ((List Y3)))=>match o453 with
  | .ret r=>some r
  | .go _=>none
  | .brk s464=>
  some (s464))
def Q12:Nat→(List Q4)→(List Int)→Q6→Q0→Option (Bool)
 | 0,_,_,_,_=>none
 | n+1,p0,p1,p2,p3=>
  (if (ieq p3.op 1)=true then
  ((Q22 p1 p2).bind fun r5=>
  some (ilt 0 r5))
  else
  (if (ieq p3.op 3)=true then
  some (true)
  else
  ((Q0m p0 p2 p3.ctor).bind fun r9=>
  ((forL (fun k87 x88 (s81:Unit)=>
  ((idx p3.kids (k87:Int)).bind fun x96=>
  ((Q12 n p0 p1 x88 x96).bind fun r97=>
  (if (!r97)=true then
  some (Ctl.ret (false))
  else
  some (Ctl.go ()))))) 0 r9 ()).bind fun (o80:Ctl _ (Unit))=>match o80 with
  | .ret r=>some r
  | .go _=>none
  | .brk s91=>
  some (true)))))
def Q51 (p0:(List Q4))(p1:Q6)(p2:Int):Option (Q0):=
  ((Q0m p0 p1 p2).bind fun r1=>
  ((forL (fun k63 x64 (s57:(List Q0))=>
  ((Q2o).bind fun r71=>
  ((app s57 [r71]).bind fun x72=>
  some (Ctl.go x72)))) 0 r1 []).bind fun (o56:Ctl _ ((List Q0)))=>match o56 with
  | .ret r=>some r
  | .go _=>none
  | .brk s67=>
  some ((Q0.mk 4 p2 0 0 0 s67))))
def Q75 (p0:(List Y3))(p1:Int)(p2:Int):Option (Bool):=
  ((forL (fun k148 x149 (s142:Unit)=>
  ((((idx x149.pats p1).bind fun x166=>
  (if (ieq x166.op 3)=true then
  (if (ieq x166.n p2)=true then
  some (Ctl.ret (Ctl.ret (true)))
  else
  (if (ieq (wadd .i64 x166.m 1) p2)=true then
  some (Ctl.ret (Ctl.ret (true)))
  else
  some (Ctl.brk ())))
  else
  some (Ctl.brk ())))).bind fun (o163:Ctl _ (Unit))=>match o163 with
  | .ret r=>some r
  | .go _=>none
  | .brk s162=>
  some (Ctl.go ()))) 0 p0 ()).bind fun (o141:Ctl _ (Unit))=>match o141 with
  | .ret r=>some r
  | .go _=>none
  | .brk s152=>
  some (false))
def Q3m (n:Nat)(p0:(List Q4))(p1:J8)(p2:(List Y3))(p3:Int):Option ((List Z3)):=
  (if (!ieq p1.kind.data (-1))=true then
  ((Q0v n p0).bind fun r147=>
  ((Q0w p0 p1.kind).bind fun r148=>
  ((forL (fun k268 x269 (s262:(List Z3))=>
  ((((Q51 p0 p1.kind x269).bind fun r283=>
  ((Q12 n p0 r147 p1.kind r283).bind fun r284=>
  (if r284=true then
  ((app s262 [(Z3.mk x269 0 0 (W3.mk 0 0 [] [] [] []))]).bind fun x286=>
  some (Ctl.brk (s262++[(Z3.mk x269 0 0 (W3.mk 0 0 [] [] [] []))])))
  else
  some (Ctl.brk s262))))).bind fun (o280:Ctl _ ((List Z3)))=>match o280 with
  | .ret r=>some r
  | .go _=>none
  | .brk s279=>
  some (Ctl.go s279))) 0 r148 []).bind fun (o261:Ctl _ ((List Z3)))=>match o261 with
  | .ret r=>some r
  | .go _=>none
  | .brk s272=>
  some (s272))))
  else
  ((whileL (fun (s490:(List Z3)×Int×Int)=>
  (if (ile s490.2.2 10)=true then
  (((if (ieq s490.2.2 10)=true then
  ((app s490.1 [(Z3.mk (-1) s490.2.1 (wsub .i64 s490.2.2 1) (W3.mk 0 0 [] [] [] []))]).bind fun x532=>
  some (Ctl.brk ((s490.1++[(Z3.mk (-1) s490.2.1 (wsub .i64 s490.2.2 1) (W3.mk 0 0 [] [] [] []))]),s490.2.2)))
  else
  ((Q75 p2 p3 s490.2.2).bind fun r533=>
  (if r533=true then
  ((app s490.1 [(Z3.mk (-1) s490.2.1 (wsub .i64 s490.2.2 1) (W3.mk 0 0 [] [] [] []))]).bind fun x535=>
  some (Ctl.brk ((s490.1++[(Z3.mk (-1) s490.2.1 (wsub .i64 s490.2.2 1) (W3.mk 0 0 [] [] [] []))]),s490.2.2)))
  else
  some (Ctl.brk (s490.1,s490.2.1)))))).bind fun (o519:Ctl _ ((List Z3)×Int))=>match o519 with
  | .ret r=>some r
  | .go _=>none
  | .brk s518=>
  some (Ctl.go (s518.1,s518.2,wadd .i64 s490.2.2 1)))
  else
  some (Ctl.brk (s490.1,s490.2.1,s490.2.2)))) n ([],0,1)).bind fun (o489:Ctl _ ((List Z3)×Int×Int))=>match o489 with
  | .ret r=>some r
  | .go _=>none
  | .brk s500=>
  some (s500.1)))
def Q42 (p0:Y3):Option (Int):=
  ((forL (fun k48 x49 (s42:Unit)=>
  (if (!ieq x49.op 1)=true then
  some (Ctl.ret ((k48:Int)))
  else
  some (Ctl.go ()))) 0 p0.pats ()).bind fun (o41:Ctl _ (Unit))=>match o41 with
  | .ret r=>some r
  | .go _=>none
  | .brk s52=>
  some ((-1)))
def Q41 (p0:(List Y3))(p1:Int):Option ((List Y3)):=
  ((forL (fun k80 x81 (s74:(List Y3))=>
  (((if (!ieq x81.clause p1)=true then
  ((app s74 [x81]).bind fun x92=>
  some (Ctl.brk x92))
  else
  some (Ctl.brk s74))).bind fun (o88:Ctl _ ((List Y3)))=>match o88 with
  | .ret r=>some r
  | .go _=>none
  | .brk s87=>
  some (Ctl.go s87))) 0 p0 []).bind fun (o73:Ctl _ ((List Y3)))=>match o73 with
  | .ret r=>some r
  | .go _=>none
  | .brk s84=>
  some (s84))
def Q43 (p0:(List Y3))(p1:Int):Option (Int):=
  ((forL (fun k80 x81 (s74:Int)=>
  ((((idx x81.pats p1).bind fun x91=>
  (if (!ieq x91.op 1)=true then
  some (Ctl.brk (wadd .i64 s74 1))
  else
  some (Ctl.brk s74)))).bind fun (o88:Ctl _ (Int))=>match o88 with
  | .ret r=>some r
  | .go _=>none
  | .brk s87=>
  some (Ctl.go s87))) 0 p0 0).bind fun (o73:Ctl _ (Int))=>match o73 with
  | .ret r=>some r
  | .go _=>none
  | .brk s84=>
  some (s84))
def Q61 (n:Nat)(p0:(List Q4))(p1:(List J8))(p2:(List Y3))(p3:Int):Option (Int):=
  ((idx p2 0).bind fun x1=>
  ((Q42 x1).bind fun r2=>
  ((whileL (fun (s740:Int×Int)=>
  (if (ilt s740.2 (lenZ p1.length))=true then
  (if (!ieq p3 0)=true then
  ((((idx x1.pats s740.2).bind fun x832=>
  (if (ieq x832.op 1)=true then
  some (Ctl.brk s740.1)
  else
  (((if (ieq p3 1)=true then
  ((Q43 p2 s740.2).bind fun r867=>
  ((Q43 p2 s740.1).bind fun r868=>
  (if (ilt r868 r867)=true then
  some (Ctl.brk s740.2)
  else
  some (Ctl.brk s740.1))))
  else
  some (Ctl.brk s740.1))).bind fun (o852:Ctl _ (Int))=>match o852 with
  | .ret r=>some r
  | .go _=>none
  | .brk s851=>
  (if (ieq p3 2)=true then
  ((idx p1 s740.2).bind fun x888=>
  ((idx p1 s851).bind fun x889=>
  ((Q3m n p0 x888 p2 s740.2).bind fun r890=>
  ((Q3m n p0 x889 p2 s851).bind fun r891=>
  (if (ilt (lenZ r890.length) (lenZ r891.length))=true then
  some (Ctl.brk s740.2)
  else
  some (Ctl.brk s851))))))
  else
  some (Ctl.brk s851)))))).bind fun (o827:Ctl _ (Int))=>match o827 with
  | .ret r=>some r
  | .go _=>none
  | .brk s826=>
  some (Ctl.go (s826,wadd .i64 s740.2 1)))
  else
  some (Ctl.brk (s740.1,s740.2)))
  else
  some (Ctl.brk (s740.1,s740.2)))) n (r2,wadd .i64 r2 1)).bind fun (o739:Ctl _ (Int×Int))=>match o739 with
  | .ret r=>some r
  | .go _=>none
  | .brk s750=>
  some (s750.1))))
def Q33 (p0:(List Q4))(p1:(List J8))(p2:Int)(p3:Z3):Option ((List J8)):=
  ((Q7q p1 p2).bind fun x1=>
  ((app [] x1).bind fun x2=>
  (((if (!ieq p3.ctor (-1))=true then
  ((idx p1 p2).bind fun x52=>
  ((Q0m p0 x52.kind p3.ctor).bind fun r53=>
  ((forL (fun k83 x84 (s77:(List J8))=>
  ((Q50 x52.path (k83:Int)).bind fun r91=>
  ((app s77 [(J8.mk r91 x84)]).bind fun x92=>
  some (Ctl.go x92)))) 0 r53 x1).bind fun (o76:Ctl _ ((List J8)))=>match o76 with
  | .ret r=>some r
  | .go _=>none
  | .brk s87=>
  some (Ctl.brk s87))))
  else
  some (Ctl.brk x1))).bind fun (o48:Ctl _ ((List J8)))=>match o48 with
  | .ret r=>some r
  | .go _=>none
  | .brk s47=>
  ((X0j p1 (wadd .i64 p2 1)).bind fun x95=>
  ((app s47 x95).bind fun x96=>
  some (x96))))))
def Q7e (p0:Q0)(p1:Z3):Option (Bool):=
  (if (ieq p0.op 1)=true then
  some (true)
  else
  (if (ieq p0.op 3)=true then
  (if (ile p0.n p1.n)=true then
  some (ile p1.m p0.m)
  else
  some (false))
  else
  some (ieq p0.ctor p1.ctor)))
def Q62 (n:Nat)(p0:(List Q4))(p1:(List J8))(p2:(List Y3))(p3:Int)(p4:Z3):Option ((List Y3)):=
  ((Q33 p0 p1 p3 p4).bind fun r1=>
  ((forL (fun k2301 x2302 (s2295:(List Y3))=>
  ((((idx x2302.pats p3).bind fun x2534=>
  ((Q7e x2534 p4).bind fun r2538=>
  (if (!r2538)=true then
  some (Ctl.brk s2295)
  else
  ((Q7q x2302.pats p3).bind fun x2540=>
  ((app [] x2540).bind fun x2541=>
  ((whileL (fun (s2713:Int×(List Q0)×(List Q2)×Int)=>
  (if (ilt s2713.2.2.2 (wsub .i64 (lenZ r1.length) (wsub .i64 (wsub .i64 (lenZ p1.length) p3) 1)))=true then
  ((Q2o).bind fun r2740=>
  (((if (ieq x2534.op 4)=true then
  ((idx x2534.kids (wsub .i64 s2713.2.2.2 p3)).bind fun x2748=>
  some (Ctl.brk x2748))
  else
  some (Ctl.brk r2740))).bind fun (o2744:Ctl _ (Q0))=>match o2744 with
  | .ret r=>some r
  | .go _=>none
  | .brk s2743=>
  ((idx r1 s2713.2.2.2).bind fun x2749=>
  ((Q6q n (Y3.mk s2713.1 s2713.2.1 s2713.2.2.1) s2743 x2749.path).bind fun r2750=>
  ((app r2750.1.pats [r2750.2]).bind fun x2751=>
  some (Ctl.go (r2750.1.clause,x2751,r2750.1.binds,wadd .i64 s2713.2.2.2 1)))))))
  else
  some (Ctl.brk (s2713.1,s2713.2.1,s2713.2.2.1,s2713.2.2.2)))) n (x2302.clause,x2540,x2302.binds,p3)).bind fun (o2712:Ctl _ (Int×(List Q0)×(List Q2)×Int))=>match o2712 with
  | .ret r=>some r
  | .go _=>none
  | .brk s2723=>
  ((X0j x2302.pats (wadd .i64 p3 1)).bind fun x2754=>
  ((app s2723.2.1 x2754).bind fun x2755=>
  ((app s2295 [(Y3.mk s2723.1 x2755 s2723.2.2.1)]).bind fun x2756=>
  some (Ctl.brk (s2295++[(Y3.mk s2723.1 x2755 s2723.2.2.1)])))))))))))).bind fun (o2531:Ctl _ ((List Y3)))=>match o2531 with
  | .ret r=>some r
  | .go _=>none
  | .brk s2530=>
  some (Ctl.go s2530))) 0 p2 []).bind fun (o2294:Ctl _ ((List Y3)))=>match o2294 with
  | .ret r=>some r
  | .go _=>none
  | .brk s2305=>
  some (s2305)))
def Q2l:Nat→(List Q4)→(List Q3)→(List J8)→(List Y3)→Int→Int→Option (W3×Int)
 | 0,_,_,_,_,_,_=>none
 | n+1,p0,p1,p2,p3,p4,p5=>
  (if (ilt (wsub .i64 p5 1) 0)=true then
  some (((W3.mk 0 0 [] [] [] []),wsub .i64 p5 1))
  else
  (if (ieq (lenZ p3.length) 0)=true then
  some (((W3.mk 0 0 [] [] [] []),wsub .i64 p5 1))
  else
  ((idx p3 0).bind fun x11=>
  ((Q42 x11).bind fun r25=>
  (if (ilt r25 0)=true then
  ((Q2n n x11.binds).bind fun r27=>
  ((idx p1 x11.clause).bind fun x30=>
  (if (ieq x30.guard.op 0)=true then
  some (((W3.mk 1 x11.clause r27 [] [] []),wsub .i64 p5 1))
  else
  ((Q41 p3 x11.clause).bind fun r32=>
  ((Q2l n p0 p1 p2 r32 p4 (wsub .i64 p5 1)).bind fun r33=>
  some (((W3.mk 1 x11.clause r27 [] [] [r33.1]),r33.2)))))))
  else
  ((Q61 n p0 p2 p3 p4).bind fun r37=>
  ((idx p2 r37).bind fun x38=>
  ((app [] x38.path).bind fun x39=>
  ((Q3m n p0 x38 p3 r37).bind fun r40=>
  ((forL (fun k186 x187 (s180:Int×(List Z3))=>
  (if (ile 0 s180.1)=true then
  ((Q33 p0 p2 r37 x187).bind fun r200=>
  ((Q62 n p0 p2 p3 r37 x187).bind fun r201=>
  ((Q2l n p0 p1 r200 r201 p4 s180.1).bind fun r202=>
  ((app s180.2 [(Z3.mk x187.ctor x187.n x187.m r202.1)]).bind fun x203=>
  some (Ctl.go (r202.2,x203))))))
  else
  some (Ctl.brk (s180.1,s180.2)))) 0 r40 (wsub .i64 p5 1,[])).bind fun (o179:Ctl _ (Int×(List Z3)))=>match o179 with
  | .ret r=>some r
  | .go _=>none
  | .brk s190=>
  some (((W3.mk 2 0 [] x38.path s190.2 []),s190.1))))))))))))
def Q6r (n:Nat)(p0:(List Q4))(p1:Q6)(p2:(List Q3))(p3:Int):Option (W3×Bool):=
  ((forL (fun k68 x69 (s62:Unit)=>
  ((Y5 n x69.pat).bind fun r76=>
  (if (ilt 40 (lenZ r76.length))=true then
  some (Ctl.ret (((W3.mk 0 0 [] [] [] []),false)))
  else
  some (Ctl.go ())))) 0 p2 ()).bind fun (o61:Ctl _ (Unit))=>match o61 with
  | .ret r=>some r
  | .go _=>none
  | .brk s72=>
  ((Q60 n p2).bind fun r79=>
  ((Q2l n p0 p2 [(J8.mk [] p1)] r79 p3 300).bind fun r80=>
  (if (ilt r80.2 0)=true then
  some (((W3.mk 0 0 [] [] [] []),false))
  else
  some ((r80.1,true))))))
def Q1c (n:Nat)(p0:(List Q4))(p1:Q6)(p2:(List Q3))(p3:Int):Option (W3×Bool):=
  ((Q19 n p0 p1 p2).bind fun r34=>
  (if (!r34)=true then
  some (((W3.mk 0 0 [] [] [] []),false))
  else
  (if (ilt p3 0)=true then
  some (((W3.mk 0 0 [] [] [] []),false))
  else
  (if (ilt 2 p3)=true then
  some (((W3.mk 0 0 [] [] [] []),false))
  else
  ((Q6r n p0 p1 p2 p3).bind fun r40=>
  some ((r40.1,r40.2)))))))
def Q5p (p0:(List Z3))(p1:Q1):Option (W3×Bool):=
  ((forL (fun k168 x169 (s162:Unit)=>
  (((if (ieq x169.ctor p1.ctor)=true then
  (if (!ieq p1.ctor (-1))=true then
  some (Ctl.ret (Ctl.ret ((x169.tree,true))))
  else
  (if (ile x169.n p1.n)=true then
  (if (ile p1.n x169.m)=true then
  some (Ctl.ret (Ctl.ret ((x169.tree,true))))
  else
  some (Ctl.brk ()))
  else
  some (Ctl.brk ())))
  else
  some (Ctl.brk ()))).bind fun (o185:Ctl _ (Unit))=>match o185 with
  | .ret r=>some r
  | .go _=>none
  | .brk s184=>
  some (Ctl.go ()))) 0 p0 ()).bind fun (o161:Ctl _ (Unit))=>match o161 with
  | .ret r=>some r
  | .go _=>none
  | .brk s172=>
  some (((W3.mk 0 0 [] [] [] []),false)))
def Q74 (n:Nat)(p0:(List Q3))(p1:W3)(p2:Q1):Option (Int×(List W9)×Int):=
  ((whileL (fun (s68:W3×Int)=>
  (if (!ieq s68.1.op 0)=true then
  (if (ieq s68.1.op 1)=true then
  ((Q32 n s68.1.binds p2).bind fun r94=>
  ((idx p0 s68.1.clause).bind fun x99=>
  ((Q1v x99.guard r94).bind fun r100=>
  (if r100=true then
  some (Ctl.ret ((s68.1.clause,r94,s68.2)))
  else
  ((idx s68.1.else_ 0).bind fun x102=>
  some (Ctl.go (x102,s68.2)))))))
  else
  ((Q5q p2 s68.1.path).bind fun r105=>
  ((Q5p s68.1.branches r105).bind fun r106=>
  (if (!r106.2)=true then
  some (Ctl.ret (((-1),[],wadd .i64 s68.2 1)))
  else
  some (Ctl.go (r106.1,wadd .i64 s68.2 1))))))
  else
  some (Ctl.brk (s68.1,s68.2)))) n (p1,0)).bind fun (o67:Ctl _ (W3×Int))=>match o67 with
  | .ret r=>some r
  | .go _=>none
  | .brk s78=>
  some (((-1),[],s78.2)))
end Go.Proofs.YtgjpamkllimhdaaGreat
