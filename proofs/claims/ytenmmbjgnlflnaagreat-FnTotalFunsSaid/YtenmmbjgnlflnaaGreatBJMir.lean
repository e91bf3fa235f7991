import Derived.Test.YtenmmbjgnlflnaaGreatBJDat
set_option linter.unusedSimpArgs false
set_option linter.unusedVariables false
namespace Go.Proofs.YtenmmbjgnlflnaaGreat
open Go Go.RowKit
def Q3h (p0:(List Int)):Option (X3):=
  (((if (ilt 2000 (lenZ p0.length))=true then
  ((Z06 p0 2000).bind fun x8=>
  some (Ctl.brk x8))
  else
  some (Ctl.brk p0))).bind fun (o4:Ctl _ ((List Int)))=>match o4 with
  | .ret r=>some r
  | .go _=>none
  | .brk s3=>
  some ((X3.mk s3 0)))
def Z3 (p0:X3)(p1:Int):Option (Int×X3):=
  (if (ilt p1 1)=true then
  some ((0,(X3.mk p0.b (wadd .i64 p0.p 1))))
  else
  (if (ieq (lenZ p0.b.length) 0)=true then
  some ((0,(X3.mk p0.b (wadd .i64 p0.p 1))))
  else
  (if (ilt (wsub .i64 (wadd .i64 p0.p 1) 1) (lenZ p0.b.length))=true then
  ((idx p0.b (wsub .i64 (wadd .i64 p0.p 1) 1)).bind fun x15=>
  ((chk (!ieq p1 0)).bind fun x16=>
  some ((wrem (wcv .i64 x15) p1,(X3.mk p0.b (wadd .i64 p0.p 1))))))
  else
  ((chk (!ieq (lenZ p0.b.length) 0)).bind fun x17=>
  ((idx p0.b (wrem (wsub .i64 (wadd .i64 p0.p 1) 1) (lenZ p0.b.length))).bind fun x18=>
  ((idx p0.b (wrem (wadd .i64 (wmul .i64 (wsub .i64 (wadd .i64 p0.p 1) 1) 7) 3) (lenZ p0.b.length))).bind fun x19=>
  ((chk (!ieq p1 0)).bind fun x20=>
  some ((wrem (wxor .i64 (wadd .i64 (wadd .i64 (wadd .i64 (wmul .i64 (wcv .i64 x18) 131) (wmul .i64 (wcv .i64 x19) 1117)) (wmul .i64 (wsub .i64 (wadd .i64 p0.p 1) 1) 29)) (wmul .i64 (wquo .i64 (wsub .i64 (wadd .i64 p0.p 1) 1) (lenZ p0.b.length)) 53)) (wquo .i64 (wadd .i64 (wadd .i64 (wadd .i64 (wmul .i64 (wcv .i64 x18) 131) (wmul .i64 (wcv .i64 x19) 1117)) (wmul .i64 (wsub .i64 (wadd .i64 p0.p 1) 1) 29)) (wmul .i64 (wquo .i64 (wsub .i64 (wadd .i64 p0.p 1) 1) (lenZ p0.b.length)) 53)) 64)) p1,(X3.mk p0.b (wadd .i64 p0.p 1)))))))))))
def Q0l  : Option ((List (List ByteArray))):=
  some ([[(ByteArray.mk #[76,62,73,47,78,105,108,32,48,47,67,111,110,115,40,97,44,98,41,32,43,40,97,44,35,48,40,98,41,41,59,76,62,76,47,78,105,108,32,78,105,108,47,67,111,110,115,40,97,44,98,41,32,97,60,51,32,35,49,40,98,41,47,67,111,110,115,40,97,44,98,41,32,67,111,110,115,40,43,40,97,44,49,41,44,35,49,40,98,41,41]),(ByteArray.mk #[76,62,76,47,78,105,108,32,78,105,108,47,67,111,110,115,40,97,44,98,41,32,67,111,110,115,40,97,44,35,48,40,98,41,41,59,76,62,73,47,67,111,110,115,40,97,44,95,41,32,97,59,73,62,76,47,97,32,67,111,110,115,40,97,44,35,50,40,97,41,41])],[(ByteArray.mk #[84,62,73,47,76,101,97,102,32,48,47,78,111,100,101,40,97,44,84,114,117,44,98,41,32,43,40,49,44,43,40,35,48,40,97,41,44,35,48,40,98,41,41,41,47,78,111,100,101,40,97,44,70,108,115,44,98,41,32,43,40,35,48,40,97,41,44,35,48,40,98,41,41,59,66,62,66,47,84,114,117,32,70,108,115,47,70,108,115,32,84,114,117,59,84,62,84,47,76,101,97,102,32,76,101,97,102,47,78,111,100,101,40,97,44,98,44,99,41,32,78,111,100,101,40,35,50,40,99,41,44,35,49,40,98,41,44,35,50,40,97,41,41])],[(ByteArray.mk #[69,49,62,73,47,78,117,109,40,97,41,32,97,47,65,100,100,40,97,44,98,41,32,43,40,35,48,40,97,41,44,35,48,40,98,41,41,47,73,102,40,97,44,98,44,99,41,32,43,40,35,48,40,98,41,44,35,48,40,99,41,41,59,69,50,62,66,47,66,111,108,40,97,41,32,97,47,73,102,40,97,44,98,44,99,41,32,35,49,40,98,41,59,69,62,73,47,78,117,109,40,97,41,32,97,47,95,32,48]),(ByteArray.mk #[69,49,62,69,49,47,78,117,109,40,97,41,32,78,117,109,40,43,40,97,44,49,41,41,47,65,100,100,40,97,44,98,41,32,65,100,100,40,35,48,40,98,41,44,35,48,40,97,41,41,47,73,102,40,97,44,98,44,99,41,32,73,102,40,97,44,35,48,40,99,41,44,35,48,40,98,41,41])],[(ByteArray.mk #[79,62,73,47,78,111,110,32,48,47,83,111,109,40,97,41,32,97,59,80,62,73,47,80,97,105,114,40,97,44,98,41,32,43,40,35,48,40,97,41,44,35,48,40,98,41,41,59,73,62,80,47,97,32,97,60,53,32,80,97,105,114,40,83,111,109,40,97,41,44,78,111,110,41,47,97,32,80,97,105,114,40,78,111,110,44,83,111,109,40,97,41,41])],[(ByteArray.mk #[86,49,62,73,47,69,110,100,32,48,47,84,119,111,40,97,41,32,43,40,35,48,40,97,41,44,50,41,59,86,50,62,73,47,83,111,109,101,40,97,44,98,41,32,43,40,97,44,35,48,40,98,41,41,47,84,119,111,40,97,41,32,35,49,40,97,41])],[(ByteArray.mk #[66,62,66,47,84,114,117,32,70,108,115,47,70,108,115,32,35,48,40,84,114,117,41])],[(ByteArray.mk #[83,62,83,47,77,105,120,40,97,44,98,41,32,77,105,120,40,35,48,40,97,41,44,35,48,40,98,41,41,47,97,32,97,59,83,62,73,47,82,101,100,32,49,47,77,105,120,40,97,44,98,41,32,43,40,35,49,40,97,41,44,35,49,40,98,41,41,47,95,32,48])]])
def Q08 (n:Nat)(p0:ByteArray)(p1:Int):Option ((List ByteArray)):=
  ((whileL (fun (s210:(List ByteArray)×Int×Int)=>
  (if (ile s210.2.2 (lenZ p0.size))=true then
  (((if (ieq s210.2.2 (lenZ p0.size))=true then
  ((ssub p0 s210.2.1 s210.2.2).bind fun x253=>
  ((app s210.1 [x253]).bind fun x254=>
  some (Ctl.brk (x254,wadd .i64 s210.2.2 1))))
  else
  ((sidx p0 s210.2.2).bind fun x255=>
  (if (ieq x255 p1)=true then
  ((ssub p0 s210.2.1 s210.2.2).bind fun x257=>
  ((app s210.1 [x257]).bind fun x258=>
  some (Ctl.brk (x258,wadd .i64 s210.2.2 1))))
  else
  some (Ctl.brk (s210.1,s210.2.1)))))).bind fun (o240:Ctl _ ((List ByteArray)×Int))=>match o240 with
  | .ret r=>some r
  | .go _=>none
  | .brk s239=>
  some (Ctl.go (s239.1,s239.2,wadd .i64 s210.2.2 1)))
  else
  some (Ctl.brk (s210.1,s210.2.1,s210.2.2)))) n ([],0,0)).bind fun (o209:Ctl _ ((List ByteArray)×Int×Int))=>match o209 with
  | .ret r=>some r
  | .go _=>none
  | .brk s220=>
  some (s220.1))
def Z29 (p0:(List ByteArray))(p1:ByteArray):Option (Int):=
  (if (seq2 p1 (ByteArray.mk #[73]))=true then
  some ((-1))
  else
  ((forL (fun k50 x51 (s44:Unit)=>
  (if (seq2 x51 p1)=true then
  some (Ctl.ret ((k50:Int)))
  else
  some (Ctl.go ()))) 0 p0 ()).bind fun (o43:Ctl _ (Unit))=>match o43 with
  | .ret r=>some r
  | .go _=>none
  | .brk s54=>
  some ((-2))))
def Q4n (p0:(List ByteArray))(p1:ByteArray):Option (Q2):=
  (if (seq2 p1 (ByteArray.mk #[]))=true then
  some ((Q2.mk (-2) 0))
  else
  ((ssub p1 0 1).bind fun x3=>
  ((Z29 p0 x3).bind fun r4=>
  ((((ssub p1 1 (p1.size:Int)).bind fun x22=>
  (if (seq2 x22 (ByteArray.mk #[42]))=true then
  some (Ctl.brk (-1))
  else
  (if (ieq (lenZ p1.size) 2)=true then
  ((sidx p1 1).bind fun x32=>
  (if (ile 48 x32)=true then
  (if (ile x32 57)=true then
  some (Ctl.brk (wcv .i64 (wsub .u8 x32 48)))
  else
  some (Ctl.brk 0))
  else
  some (Ctl.brk 0)))
  else
  some (Ctl.brk 0))))).bind fun (o19:Ctl _ (Int))=>match o19 with
  | .ret r=>some r
  | .go _=>none
  | .brk s18=>
  some ((Q2.mk r4 s18))))))
def Q8g (n:Nat)(p0:(List ByteArray))(p1:ByteArray):Option (Q96):=
  (((if (ilt 2 (lenZ p1.size))=true then
  ((sidx p1 (wsub .i64 (lenZ p1.size) 2)).bind fun x25=>
  (if (ieq x25 58)=true then
  ((sidx p1 (wsub .i64 (lenZ p1.size) 1)).bind fun x27=>
  ((ssub p1 0 (wsub .i64 (lenZ p1.size) 2)).bind fun x28=>
  some (Ctl.brk (x28,wsub .i64 (wcv .i64 x27) 48))))
  else
  some (Ctl.brk (p1,0))))
  else
  some (Ctl.brk (p1,0)))).bind fun (o14:Ctl _ (ByteArray×Int))=>match o14 with
  | .ret r=>some r
  | .go _=>none
  | .brk s13=>
  ((Q08 n s13.1 40).bind fun r29=>
  ((idx r29 0).bind fun x30=>
  (if (ilt (lenZ r29.length) 2)=true then
  some ((Q96.mk x30 [] s13.2))
  else
  ((idx r29 1).bind fun x45=>
  (if (ieq (lenZ x45.size) 0)=true then
  some ((Q96.mk x30 [] s13.2))
  else
  ((ssub x45 0 (wsub .i64 (lenZ x45.size) 1)).bind fun x47=>
  ((Q08 n x47 44).bind fun r48=>
  ((forL (fun k152 x153 (s146:(List Q2))=>
  (if (ile (k152:Int) 3)=true then
  ((Q4n p0 x153).bind fun r162=>
  ((app s146 [r162]).bind fun x163=>
  some (Ctl.go x163)))
  else
  some (Ctl.brk s146))) 0 r48 []).bind fun (o145:Ctl _ ((List Q2)))=>match o145 with
  | .ret r=>some r
  | .go _=>none
  | .brk s156=>
  some ((Q96.mk x30 s156 s13.2)))))))))))
def Q1a:Nat→Int→Option (ByteArray)
 | 0,_=>none
 | n+1,p0=>
  (if (ilt p0 (-9223372036854775807))=true then
  some ((ByteArray.mk #[45,57,50,50,51,51,55,50,48,51,54,56,53,52,55,55,53,56,48,56]))
  else
  (if (ilt p0 0)=true then
  ((Q1a n (wneg .i64 p0)).bind fun r8=>
  ((scat (ByteArray.mk #[45]) r8).bind fun x9=>
  some (x9)))
  else
  ((whileL (fun (s20:Int×ByteArray)=>
  (if (ilt 9 s20.1)=true then
  ((scat (bstr [wcv .u8 (wadd .i64 48 (wrem s20.1 10))]) s20.2).bind fun x33=>
  some (Ctl.go (wquo .i64 s20.1 10,x33)))
  else
  some (Ctl.brk (s20.1,s20.2)))) n (p0,(ByteArray.mk #[]))).bind fun (o19:Ctl _ (Int×ByteArray))=>match o19 with
  | .ret r=>some r
  | .go _=>none
  | .brk s30=>
  ((scat (bstr [wcv .u8 (wadd .i64 48 s30.1)]) s30.2).bind fun x34=>
  some (x34)))))
def Z1d (n:Nat)(p0:Int):Option (ByteArray):=
  (if (ieq p0 0)=true then
  some ((ByteArray.mk #[]))
  else
  (if (ieq p0 (-1))=true then
  some ((ByteArray.mk #[42]))
  else
  ((Q1a n p0).bind fun r5=>
  some (r5))))
def Q8f (n:Nat)(p0:(List Q4))(p1:Q2):Option (ByteArray):=
  (if (ieq p1.data (-1))=true then
  some ((ByteArray.mk #[73]))
  else
  ((idx p0 p1.data).bind fun x3=>
  ((Z1d n p1.index).bind fun r4=>
  ((scat x3.name r4).bind fun x5=>
  some (x5)))))
def Q8r (n:Nat)(p0:(List Q4))(p1:Q96):Option (ByteArray):=
  ((forL (fun k170 x171 (s164:ByteArray)=>
  (((if (ieq (k170:Int) 0)=true then
  ((scat s164 (ByteArray.mk #[40])).bind fun x196=>
  some (Ctl.brk x196))
  else
  ((scat s164 (ByteArray.mk #[44])).bind fun x197=>
  some (Ctl.brk x197)))).bind fun (o192:Ctl _ (ByteArray))=>match o192 with
  | .ret r=>some r
  | .go _=>none
  | .brk s191=>
  ((Q8f n p0 x171).bind fun r198=>
  ((scat s191 r198).bind fun x199=>
  some (Ctl.go x199))))) 0 p1.args p1.name).bind fun (o163:Ctl _ (ByteArray))=>match o163 with
  | .ret r=>some r
  | .go _=>none
  | .brk s174=>
  (((if (ilt 0 (lenZ p1.args.length))=true then
  ((scat s174 (ByteArray.mk #[41])).bind fun x208=>
  some (Ctl.brk x208))
  else
  some (Ctl.brk s174))).bind fun (o204:Ctl _ (ByteArray))=>match o204 with
  | .ret r=>some r
  | .go _=>none
  | .brk s203=>
  (((if (ilt 0 p1.index)=true then
  ((scat s203 (ByteArray.mk #[58])).bind fun x219=>
  ((Q1a n p1.index).bind fun r220=>
  ((scat x219 r220).bind fun x221=>
  some (Ctl.brk x221))))
  else
  some (Ctl.brk s203))).bind fun (o215:Ctl _ (ByteArray))=>match o215 with
  | .ret r=>some r
  | .go _=>none
  | .brk s214=>
  some (s214))))
def Z26 (n:Nat)(p0:(List Q4)):Option (ByteArray):=
  ((forL (fun k1020 x1021 (s1014:ByteArray)=>
  (((if (ilt 0 (k1020:Int))=true then
  ((scat s1014 (ByteArray.mk #[59])).bind fun x1130=>
  some (Ctl.brk x1130))
  else
  some (Ctl.brk s1014))).bind fun (o1126:Ctl _ (ByteArray))=>match o1126 with
  | .ret r=>some r
  | .go _=>none
  | .brk s1125=>
  ((scat s1125 x1021.name).bind fun x1131=>
  ((scat x1131 (ByteArray.mk #[61])).bind fun x1132=>
  ((forL (fun k1194 x1195 (s1188:ByteArray)=>
  (((if (ilt 0 (k1194:Int))=true then
  ((scat s1188 (ByteArray.mk #[124])).bind fun x1217=>
  some (Ctl.brk x1217))
  else
  some (Ctl.brk s1188))).bind fun (o1213:Ctl _ (ByteArray))=>match o1213 with
  | .ret r=>some r
  | .go _=>none
  | .brk s1212=>
  ((Q8r n p0 x1195).bind fun r1218=>
  ((scat s1212 r1218).bind fun x1219=>
  some (Ctl.go x1219))))) 0 x1021.ctors x1132).bind fun (o1187:Ctl _ (ByteArray))=>match o1187 with
  | .ret r=>some r
  | .go _=>none
  | .brk s1198=>
  some (Ctl.go s1198)))))) 0 p0 (ByteArray.mk #[])).bind fun (o1013:Ctl _ (ByteArray))=>match o1013 with
  | .ret r=>some r
  | .go _=>none
  | .brk s1024=>
  some (s1024))
def Q93 (p0:Int):Option (Bool):=
  (if (ile 65 p0)=true then
  some (ile p0 90)
  else
  some (false))
def Z2a (p0:ByteArray):Option (Bool):=
  (if (ieq (lenZ p0.size) 1)=true then
  ((sidx p0 0).bind fun x8=>
  ((Q93 x8).bind fun r9=>
  (if r9=true then
  some (!seq2 p0 (ByteArray.mk #[73]))
  else
  some (false))))
  else
  some (false))
def Q9b (n:Nat)(p0:ByteArray):Option (Bool):=
  (if (ieq (lenZ p0.size) 0)=true then
  some (false)
  else
  (if (ilt 5 (lenZ p0.size))=true then
  some (false)
  else
  ((sidx p0 0).bind fun x31=>
  ((Q93 x31).bind fun r32=>
  (if (!r32)=true then
  some (false)
  else
  ((whileL (fun (s139:Int)=>
  (if (ilt s139 (lenZ p0.size))=true then
  ((sidx p0 s139).bind fun x165=>
  (if (ilt x165 97)=true then
  some (Ctl.ret (false))
  else
  (if (ilt 122 x165)=true then
  some (Ctl.ret (false))
  else
  some (Ctl.go (wadd .i64 s139 1)))))
  else
  some (Ctl.brk s139))) n 1).bind fun (o138:Ctl _ (Int))=>match o138 with
  | .ret r=>some r
  | .go _=>none
  | .brk s149=>
  some (true)))))))
def Q94 (p0:Int)(p1:Q2):Option (Bool):=
  (if (ieq p1.data (-1))=true then
  some (ieq p1.index 0)
  else
  (if (ile 0 p1.data)=true then
  (if (ilt p1.data p0)=true then
  (if (ile (-1) p1.index)=true then
  some (ile p1.index 3)
  else
  some (false))
  else
  some (false))
  else
  some (false)))
def Z2b (n:Nat)(p0:Int)(p1:Q96):Option (Bool):=
  ((Q9b n p1.name).bind fun r44=>
  (if (!r44)=true then
  some (false)
  else
  (if (ilt 3 (lenZ p1.args.length))=true then
  some (false)
  else
  (if (ilt p1.index 0)=true then
  some (false)
  else
  (if (ilt 3 p1.index)=true then
  some (false)
  else
  ((forL (fun k119 x120 (s113:Unit)=>
  ((Q94 p0 x120).bind fun r127=>
  (if (!r127)=true then
  some (Ctl.ret (false))
  else
  some (Ctl.go ())))) 0 p1.args ()).bind fun (o112:Ctl _ (Unit))=>match o112 with
  | .ret r=>some r
  | .go _=>none
  | .brk s123=>
  some (true)))))))
def Z1c (n:Nat)(p0:(List Q4))(p1:Int)(p2:Int):Option (Bool):=
  ((whileL (fun (s3156:Int)=>
  (if (ile s3156 p1)=true then
  (((if (ilt s3156 p1)=true then
  ((idx p0 s3156).bind fun x3505=>
  ((idx p0 p1).bind fun x3506=>
  (if (seq2 x3505.name x3506.name)=true then
  some (Ctl.ret (Ctl.ret (true)))
  else
  some (Ctl.brk ()))))
  else
  some (Ctl.brk ()))).bind fun (o3494:Ctl _ (Unit))=>match o3494 with
  | .ret r=>some r
  | .go _=>none
  | .brk s3493=>
  ((idx p0 s3156).bind fun x3637=>
  ((forL (fun k3750 x3751 (s3744:Unit)=>
  (((if (ilt s3156 p1)=true then
  some (Ctl.brk ())
  else
  (if (ilt (k3750:Int) p2)=true then
  some (Ctl.brk ())
  else
  some (Ctl.ret (Ctl.brk ()))))).bind fun (o3761:Ctl _ (Unit))=>match o3761 with
  | .ret r=>some r
  | .go _=>none
  | .brk s3760=>
  ((((idx p0 p1).bind fun x3791=>
  (if (ilt p2 (lenZ x3791.ctors.length))=true then
  ((idx x3791.ctors p2).bind fun x3793=>
  (if (seq2 x3751.name x3793.name)=true then
  some (Ctl.ret (Ctl.ret (Ctl.ret (true))))
  else
  some (Ctl.brk ())))
  else
  some (Ctl.brk ())))).bind fun (o3781:Ctl _ (Unit))=>match o3781 with
  | .ret r=>some r
  | .go _=>none
  | .brk s3780=>
  some (Ctl.go ())))) 0 x3637.ctors ()).bind fun (o3743:Ctl _ (Unit))=>match o3743 with
  | .ret r=>some r
  | .go _=>none
  | .brk s3754=>
  some (Ctl.go (wadd .i64 s3156 1)))))
  else
  some (Ctl.brk s3156))) n 0).bind fun (o3155:Ctl _ (Int))=>match o3155 with
  | .ret r=>some r
  | .go _=>none
  | .brk s3166=>
  some (false))
def Q1f (n:Nat)(p0:(List Q4)):Option (Bool):=
  (if (ilt 4 (lenZ p0.length))=true then
  some (false)
  else
  ((forL (fun k1970 x1971 (s1964:Unit)=>
  ((Z2a x1971.name).bind fun r2197=>
  (if (!r2197)=true then
  some (Ctl.ret (false))
  else
  (if (ieq (lenZ x1971.ctors.length) 0)=true then
  some (Ctl.ret (false))
  else
  (if (ilt 4 (lenZ x1971.ctors.length))=true then
  some (Ctl.ret (false))
  else
  ((forL (fun k2307 x2308 (s2301:Unit)=>
  ((Z2b n (lenZ p0.length) x2308).bind fun r2345=>
  (if (!r2345)=true then
  some (Ctl.ret (Ctl.ret (false)))
  else
  ((Z1c n p0 (k1970:Int) (k2307:Int)).bind fun r2348=>
  (if r2348=true then
  some (Ctl.ret (Ctl.ret (false)))
  else
  some (Ctl.go ())))))) 0 x1971.ctors ()).bind fun (o2300:Ctl _ (Unit))=>match o2300 with
  | .ret r=>some r
  | .go _=>none
  | .brk s2311=>
  some (Ctl.go ()))))))) 0 p0 ()).bind fun (o1963:Ctl _ (Unit))=>match o1963 with
  | .ret r=>some r
  | .go _=>none
  | .brk s1974=>
  some (true)))
def Q72 (n:Nat)(p0:ByteArray):Option ((List Q4)×Bool):=
  ((Q08 n p0 59).bind fun r1=>
  ((forL (fun k167 x168 (s161:(List ByteArray))=>
  (if (ile (k167:Int) 4)=true then
  (if (!seq2 p0 (ByteArray.mk #[]))=true then
  ((Q08 n x168 61).bind fun r188=>
  (if (!ieq (lenZ r188.length) 2)=true then
  some (Ctl.ret (([],false)))
  else
  ((idx r188 0).bind fun x191=>
  ((app s161 [x191]).bind fun x192=>
  some (Ctl.go x192)))))
  else
  some (Ctl.brk s161))
  else
  some (Ctl.brk s161))) 0 r1 []).bind fun (o160:Ctl _ ((List ByteArray)))=>match o160 with
  | .ret r=>some r
  | .go _=>none
  | .brk s171=>
  ((forL (fun k1463 x1464 (s1457:(List Q4))=>
  ((idx r1 (k1463:Int)).bind fun x1591=>
  ((Q08 n x1591 61).bind fun r1592=>
  ((idx r1592 1).bind fun x1593=>
  ((Q08 n x1593 124).bind fun r1594=>
  ((forL (fun k1698 x1699 (s1692:(List Q96))=>
  (if (ile (k1698:Int) 4)=true then
  ((Q8g n s171 x1699).bind fun r1708=>
  ((app s1692 [r1708]).bind fun x1709=>
  some (Ctl.go x1709)))
  else
  some (Ctl.brk s1692))) 0 r1594 []).bind fun (o1691:Ctl _ ((List Q96)))=>match o1691 with
  | .ret r=>some r
  | .go _=>none
  | .brk s1702=>
  ((app s1457 [(Q4.mk x1464 s1702)]).bind fun x1711=>
  some (Ctl.go (s1457++[(Q4.mk x1464 s1702)]))))))))) 0 s171 []).bind fun (o1456:Ctl _ ((List Q4)))=>match o1456 with
  | .ret r=>some r
  | .go _=>none
  | .brk s1467=>
  ((Q1f n s1467).bind fun r1747=>
  (if (!r1747)=true then
  some (([],false))
  else
  ((Z26 n s1467).bind fun r1750=>
  (if (!seq2 r1750 p0)=true then
  some (([],false))
  else
  some ((s1467,true)))))))))
def Q8x  : Option ((List ByteArray)):=
  some ([(ByteArray.mk #[76,61,78,105,108,124,67,111,110,115,40,73,44,76,41]),(ByteArray.mk #[66,61,84,114,117,124,70,108,115,59,84,61,76,101,97,102,124,78,111,100,101,40,84,44,66,44,84,41]),(ByteArray.mk #[69,61,78,117,109,40,73,41,58,49,124,66,111,108,40,66,41,58,50,124,65,100,100,40,69,49,44,69,49,41,58,49,124,73,102,40,69,50,44,69,42,44,69,42,41,59,66,61,84,114,117,124,70,108,115]),(ByteArray.mk #[79,61,78,111,110,124,83,111,109,40,73,41,59,80,61,80,97,105,114,40,79,44,79,41]),(ByteArray.mk #[86,61,69,110,100,58,49,124,83,111,109,101,40,73,44,86,49,41,58,50,124,84,119,111,40,86,42,41]),(ByteArray.mk #[78,61,78,101,118,101,114,40,78,41,59,66,61,84,114,117,124,70,108,115,124,77,97,121,40,78,41]),(ByteArray.mk #[83,61,82,101,100,124,71,114,101,101,110,124,66,108,117,101,124,77,105,120,40,83,44,83,41]),(ByteArray.mk #[])])
def Q36 (p0:(List Q4))(p1:Q2):Option (Bool):=
  ((Q94 (lenZ p0.length) p1).bind fun r5=>
  (if r5=true then
  some (ile 0 p1.index)
  else
  some (false)))
def Q3j (p0:(List Q4))(p1:(List Z0)):Option (Bool):=
  ((forL (fun k288 x289 (s282:Unit)=>
  (if (ile (k288:Int) 4)=true then
  ((Q36 p0 x289.arg).bind fun r328=>
  (if (!r328)=true then
  some (Ctl.ret (false))
  else
  ((Q36 p0 x289.res).bind fun r331=>
  (if (!r331)=true then
  some (Ctl.ret (false))
  else
  some (Ctl.go ())))))
  else
  some (Ctl.brk ()))) 0 p1 ()).bind fun (o281:Ctl _ (Unit))=>match o281 with
  | .ret r=>some r
  | .go _=>none
  | .brk s292=>
  some (ile (lenZ p1.length) 4))
def Q3g (p0:(List Int))(p1:Int):Option (Bool):=
  ((forL (fun k48 x49 (s42:Unit)=>
  (if (ieq x49 p1)=true then
  some (Ctl.ret (true))
  else
  some (Ctl.go ()))) 0 p0 ()).bind fun (o41:Ctl _ (Unit))=>match o41 with
  | .ret r=>some r
  | .go _=>none
  | .brk s52=>
  some (false))
def Z0d (p0:Q96)(p1:Int):Option (Int):=
  (if (ieq p0.index 0)=true then
  some (p1)
  else
  some (p0.index))
def V2 (p0:(List Q4))(p1:Q2)(p2:Int):Option ((List Q2)):=
  ((idx p0 p1.data).bind fun x1=>
  ((idx x1.ctors p2).bind fun x2=>
  ((forL (fun k152 x153 (s146:(List Q2))=>
  (((if (ieq x153.index (-1))=true then
  ((Z0d x2 p1.index).bind fun r176=>
  some (Ctl.brk r176))
  else
  some (Ctl.brk x153.index))).bind fun (o172:Ctl _ (Int))=>match o172 with
  | .ret r=>some r
  | .go _=>none
  | .brk s171=>
  ((app s146 [(Q2.mk x153.data s171)]).bind fun x178=>
  some (Ctl.go x178)))) 0 x2.args []).bind fun (o145:Ctl _ ((List Q2)))=>match o145 with
  | .ret r=>some r
  | .go _=>none
  | .brk s156=>
  some (s156))))
def Z28 (p0:Q96)(p1:Int):Option (Bool):=
  (if (ieq p0.index 0)=true then
  some (true)
  else
  (if (ieq p1 0)=true then
  some (true)
  else
  some (ieq p0.index p1)))
def Q0f (p0:(List Q4))(p1:Q2):Option ((List Int)):=
  (if (ieq p1.data (-1))=true then
  some ([])
  else
  ((idx p0 p1.data).bind fun x138=>
  ((forL (fun k180 x181 (s174:(List Int))=>
  ((((Z28 x181 p1.index).bind fun r193=>
  (if r193=true then
  ((app s174 [(k180:Int)]).bind fun x195=>
  some (Ctl.brk x195))
  else
  some (Ctl.brk s174)))).bind fun (o190:Ctl _ ((List Int)))=>match o190 with
  | .ret r=>some r
  | .go _=>none
  | .brk s189=>
  some (Ctl.go s189))) 0 x138.ctors []).bind fun (o173:Ctl _ ((List Int)))=>match o173 with
  | .ret r=>some r
  | .go _=>none
  | .brk s184=>
  some (s184))))
def Q2r (p0:(List Q5))(p1:Int):Option (Int):=
  ((forL (fun k48 x49 (s42:Unit)=>
  (if (ieq x49.var p1)=true then
  some (Ctl.ret ((k48:Int)))
  else
  some (Ctl.go ()))) 0 p0 ()).bind fun (o41:Ctl _ (Unit))=>match o41 with
  | .ret r=>some r
  | .go _=>none
  | .brk s52=>
  some ((-1)))
def Q3k (p0:Q2)(p1:Q2):Option (Bool):=
  (if (ieq p0.data p1.data)=true then
  (if (ieq p1.index 0)=true then
  some (true)
  else
  some (ieq p0.index p1.index))
  else
  some (false))
def Q7h (p0:(List Q4))(p1:(List Z0))(p2:(List Q5))(p3:Q2)(p4:Z1):Option ((List Q2)×Bool):=
  (((if (!ieq p4.op 3)=true then
  (if (!ieq p4.ctor 0)=true then
  some (Ctl.ret (([],false)))
  else
  (if (ieq p4.op 3)=true then
  (if (!ieq p4.n 0)=true then
  some (Ctl.ret (([],false)))
  else
  some (Ctl.brk ()))
  else
  (if (ieq p4.op 4)=true then
  (if (!ieq p4.n 0)=true then
  some (Ctl.ret (([],false)))
  else
  some (Ctl.brk ()))
  else
  some (Ctl.brk ()))))
  else
  (if (ieq p4.op 3)=true then
  (if (!ieq p4.n 0)=true then
  some (Ctl.ret (([],false)))
  else
  some (Ctl.brk ()))
  else
  (if (ieq p4.op 4)=true then
  (if (!ieq p4.n 0)=true then
  some (Ctl.ret (([],false)))
  else
  some (Ctl.brk ()))
  else
  some (Ctl.brk ()))))).bind fun (o28:Ctl _ (Unit))=>match o28 with
  | .ret r=>some r
  | .go _=>none
  | .brk s27=>
  (if (ieq p4.op 1)=true then
  (if (Q7x [ieq p3.data (-1),ieq p3.index 0])=true then
  (if (ile 0 p4.n)=true then
  some (([],ile p4.n 9))
  else
  some (([],false)))
  else
  some (([],false)))
  else
  (if (ieq p4.op 2)=true then
  ((Q2r p2 p4.n).bind fun r107=>
  (if (ile 0 r107)=true then
  ((idx p2 r107).bind fun x113=>
  ((Q3k x113.typ p3).bind fun r114=>
  some (([],r114))))
  else
  some (([],false))))
  else
  (if (ieq p4.op 4)=true then
  some (([(Q2.mk (-1) 0),(Q2.mk (-1) 0)],Q7x [ieq p3.data (-1),ieq p3.index 0]))
  else
  (if (ieq p4.op 3)=true then
  ((Q0f p0 p3).bind fun r124=>
  ((Q3g r124 p4.ctor).bind fun r125=>
  (if (!r125)=true then
  some (([],false))
  else
  ((V2 p0 p3 p4.ctor).bind fun r127=>
  some ((r127,true))))))
  else
  (if (ieq p4.op 5)=true then
  (if (ilt p4.n 0)=true then
  some (([],false))
  else
  (if (ile (lenZ p1.length) p4.n)=true then
  some (([],false))
  else
  ((idx p1 p4.n).bind fun x142=>
  ((Q3k x142.res p3).bind fun r143=>
  some (([x142.arg],r143))))))
  else
  some (([],false))))))))
def Q2z:Nat→(List Q4)→(List Z0)→(List Q5)→Q2→Z1→Int→Option (Bool)
 | 0,_,_,_,_,_,_=>none
 | n+1,p0,p1,p2,p3,p4,p5=>
  (if (ilt p5 1)=true then
  some (false)
  else
  ((Q7h p0 p1 p2 p3 p4).bind fun r3=>
  (if (!r3.2)=true then
  some (false)
  else
  (if (!ieq (lenZ p4.kids.length) (lenZ r3.1.length))=true then
  some (false)
  else
  ((forL (fun k91 x92 (s85:Unit)=>
  ((idx p4.kids (k91:Int)).bind fun x100=>
  ((Q2z n p0 p1 p2 x92 x100 (wsub .i64 p5 1)).bind fun r101=>
  (if (!r101)=true then
  some (Ctl.ret (false))
  else
  some (Ctl.go ()))))) 0 r3.1 ()).bind fun (o84:Ctl _ (Unit))=>match o84 with
  | .ret r=>some r
  | .go _=>none
  | .brk s95=>
  some (true))))))
def Q40:Nat→Z1→Int→Option (Int)
 | 0,_,_=>none
 | n+1,p0,p1=>
  ((forL (fun k94 x95 (s88:Int)=>
  (if (ile s88 p1)=true then
  ((Q40 n x95 (wsub .i64 p1 s88)).bind fun r103=>
  some (Ctl.go (wadd .i64 s88 r103)))
  else
  some (Ctl.brk s88))) 0 p0.kids 1).bind fun (o87:Ctl _ (Int))=>match o87 with
  | .ret r=>some r
  | .go _=>none
  | .brk s98=>
  some (s98))
def Q6l (n:Nat)(p0:(List Q4))(p1:(List Z0))(p2:(List Q5))(p3:Q2)(p4:Z1):Option (Bool):=
  ((Q2z n p0 p1 p2 p3 p4 10).bind fun r7=>
  (if r7=true then
  ((Q40 n p4 60).bind fun r9=>
  some (ile r9 60))
  else
  some (false)))
def Q37 (n:Nat)(p0:(List Q4))(p1:Q2):Option (Bool):=
  ((Q1f n p0).bind fun r7=>
  (if r7=true then
  ((Q36 p0 p1).bind fun r9=>
  some (r9))
  else
  some (false)))
def Q66 (p0:Q4u)(p1:(List Q5)):Option (Bool):=
  (if (ieq p0.op 0)=true then
  (if (ieq p0.var 0)=true then
  some (ieq p0.n 0)
  else
  some (false))
  else
  (((if (!ieq p0.op 1)=true then
  (if (!ieq p0.op 2)=true then
  some (Ctl.ret (false))
  else
  (if (ilt p0.n 0)=true then
  some (Ctl.ret (false))
  else
  (if (ilt 9 p0.n)=true then
  some (Ctl.ret (false))
  else
  some (Ctl.brk ()))))
  else
  (if (ilt p0.n 0)=true then
  some (Ctl.ret (false))
  else
  (if (ilt 9 p0.n)=true then
  some (Ctl.ret (false))
  else
  some (Ctl.brk ()))))).bind fun (o24:Ctl _ (Unit))=>match o24 with
  | .ret r=>some r
  | .go _=>none
  | .brk s23=>
  ((Q2r p1 p0.var).bind fun r43=>
  (if (ile 0 r43)=true then
  ((idx p1 r43).bind fun x47=>
  some (ieq x47.typ.data (-1)))
  else
  some (false)))))
def Q8e (p0:Int):Option (Int):=
  (if (ieq p0 5)=true then
  some (2)
  else
  (if (ieq p0 6)=true then
  some (1)
  else
  (if (ieq p0 4)=true then
  some ((-1))
  else
  some (0))))
def Q4v (n:Nat)(p0:(List Q4))(p1:Q2)(p2:Q0):Option ((List Q2)):=
  (if (ieq p2.op 4)=true then
  ((V2 p0 p1 p2.ctor).bind fun r5=>
  some (r5))
  else
  ((whileL (fun (s66:(List Q2)×Int)=>
  ((Q8e p2.op).bind fun r80=>
  (if (ilt s66.2 r80)=true then
  ((app s66.1 [p1]).bind fun x83=>
  some (Ctl.go (x83,wadd .i64 s66.2 1)))
  else
  some (Ctl.brk (s66.1,s66.2))))) n ([],0)).bind fun (o65:Ctl _ ((List Q2)×Int))=>match o65 with
  | .ret r=>some r
  | .go _=>none
  | .brk s76=>
  some (s76.1)))
def Q0k:Nat→(List Q5)→(List Q4)→Q2→Q0→Option ((List Q5))
 | 0,_,_,_,_=>none
 | n+1,p0,p1,p2,p3=>
  (((if (ieq p3.op 2)=true then
  ((app p0 [(Q5.mk p3.var p2)]).bind fun x20=>
  some (Ctl.brk x20))
  else
  (if (ieq p3.op 6)=true then
  ((app p0 [(Q5.mk p3.var p2)]).bind fun x22=>
  some (Ctl.brk x22))
  else
  some (Ctl.brk p0)))).bind fun (o11:Ctl _ ((List Q5)))=>match o11 with
  | .ret r=>some r
  | .go _=>none
  | .brk s10=>
  ((Q4v n p1 p2 p3).bind fun r23=>
  ((forL (fun k179 x180 (s173:(List Q5))=>
  (((if (ieq (k179:Int) 0)=true then
  some (Ctl.brk ())
  else
  (if (!ieq p3.op 5)=true then
  some (Ctl.brk ())
  else
  some (Ctl.ret (Ctl.brk s173))))).bind fun (o190:Ctl _ (Unit))=>match o190 with
  | .ret r=>some r
  | .go _=>none
  | .brk s189=>
  ((idx p3.kids (k179:Int)).bind fun x201=>
  ((Q0k n s173 p1 x180 x201).bind fun r202=>
  some (Ctl.go r202))))) 0 r23 s10).bind fun (o172:Ctl _ ((List Q5)))=>match o172 with
  | .ret r=>some r
  | .go _=>none
  | .brk s183=>
  some (s183))))
def Q92 (p0:(List Q4))(p1:Q2)(p2:Q0):Option (Bool):=
  (((if (ieq p2.op 2)=true then
  some (Ctl.brk true)
  else
  some (Ctl.brk (ieq p2.op 6)))).bind fun (o3:Ctl _ (Bool))=>match o3 with
  | .ret r=>some r
  | .go _=>none
  | .brk s2=>
  (((if s2=true then
  (if (ilt p2.var 0)=true then
  some (Ctl.ret (false))
  else
  (if (ilt 5 p2.var)=true then
  some (Ctl.ret (false))
  else
  some (Ctl.brk ())))
  else
  (if (!ieq p2.var 0)=true then
  some (Ctl.ret (false))
  else
  some (Ctl.brk ())))).bind fun (o19:Ctl _ (Unit))=>match o19 with
  | .ret r=>some r
  | .go _=>none
  | .brk s18=>
  (((if (!ieq p2.op 3)=true then
  (if (!ieq p2.n 0)=true then
  some (Ctl.ret (false))
  else
  (if (!ieq p2.m 0)=true then
  some (Ctl.ret (false))
  else
  (if (!ieq p2.op 4)=true then
  (if (!ieq p2.ctor 0)=true then
  some (Ctl.ret (false))
  else
  some (Ctl.brk ()))
  else
  some (Ctl.brk ()))))
  else
  (if (!ieq p2.op 4)=true then
  (if (!ieq p2.ctor 0)=true then
  some (Ctl.ret (false))
  else
  some (Ctl.brk ()))
  else
  some (Ctl.brk ())))).bind fun (o53:Ctl _ (Unit))=>match o53 with
  | .ret r=>some r
  | .go _=>none
  | .brk s52=>
  (((if (ieq p2.op 1)=true then
  some (Ctl.brk (ieq p2.op 1))
  else
  (if (ieq p2.op 2)=true then
  some (Ctl.brk (ieq p2.op 2))
  else
  (if (ieq p2.op 5)=true then
  some (Ctl.brk (ieq p2.op 5))
  else
  some (Ctl.brk (ieq p2.op 6)))))).bind fun (o102:Ctl _ (Bool))=>match o102 with
  | .ret r=>some r
  | .go _=>none
  | .brk s101=>
  (if s101=true then
  some (true)
  else
  (if (ieq p2.op 3)=true then
  (if (ieq p1.data (-1))=true then
  (if (ile 0 p2.n)=true then
  (if (ile p2.n p2.m)=true then
  some (ile p2.m 9)
  else
  some (false))
  else
  some (false))
  else
  some (false))
  else
  (if (ieq p2.op 4)=true then
  ((Q0f p0 p1).bind fun r117=>
  ((Q3g r117 p2.ctor).bind fun r118=>
  some (r118)))
  else
  some (false))))))))
def Q3f:Nat→(List Q4)→Q2→Q0→Int→Option (Bool)
 | 0,_,_,_,_=>none
 | n+1,p0,p1,p2,p3=>
  (if (ilt p3 1)=true then
  some (false)
  else
  ((Q92 p0 p1 p2).bind fun r20=>
  (if (!r20)=true then
  some (false)
  else
  ((Q4v n p0 p1 p2).bind fun r22=>
  (if (!ieq (lenZ p2.kids.length) (lenZ r22.length))=true then
  some (false)
  else
  ((forL (fun k102 x103 (s96:Unit)=>
  ((idx p2.kids (k102:Int)).bind fun x111=>
  ((Q3f n p0 x103 x111 (wsub .i64 p3 1)).bind fun r112=>
  (if (!r112)=true then
  some (Ctl.ret (false))
  else
  some (Ctl.go ()))))) 0 r22 ()).bind fun (o95:Ctl _ (Unit))=>match o95 with
  | .ret r=>some r
  | .go _=>none
  | .brk s106=>
  some (true)))))))
def Q4w:Nat→Q0→Int→Option (Int)
 | 0,_,_=>none
 | n+1,p0,p1=>
  ((forL (fun k94 x95 (s88:Int)=>
  (if (ile s88 p1)=true then
  ((Q4w n x95 (wsub .i64 p1 s88)).bind fun r103=>
  some (Ctl.go (wadd .i64 s88 r103)))
  else
  some (Ctl.brk s88))) 0 p0.kids 1).bind fun (o87:Ctl _ (Int))=>match o87 with
  | .ret r=>some r
  | .go _=>none
  | .brk s98=>
  some (s98))
def Q67 (p0:(List Q5))(p1:(List Q5)):Option (Bool):=
  ((forL (fun k138 x139 (s132:Unit)=>
  ((Q2r p1 x139.var).bind fun r153=>
  (if (ilt r153 0)=true then
  some (Ctl.ret (false))
  else
  ((idx p1 r153).bind fun x160=>
  (if (!Q7x [ieq x160.typ.data x139.typ.data,ieq x160.typ.index x139.typ.index])=true then
  some (Ctl.ret (false))
  else
  some (Ctl.go ())))))) 0 p0 ()).bind fun (o131:Ctl _ (Unit))=>match o131 with
  | .ret r=>some r
  | .go _=>none
  | .brk s142=>
  some (ieq (lenZ p0.length) (lenZ p1.length)))
def Q3x:Nat→(List Q4)→Q2→Q0→Option (Bool)
 | 0,_,_,_=>none
 | n+1,p0,p1,p2=>
  ((Q4v n p0 p1 p2).bind fun r1=>
  ((forL (fun k79 x80 (s73:Unit)=>
  ((idx p2.kids (k79:Int)).bind fun x88=>
  ((Q3x n p0 x80 x88).bind fun r89=>
  (if (!r89)=true then
  some (Ctl.ret (false))
  else
  some (Ctl.go ()))))) 0 r1 ()).bind fun (o72:Ctl _ (Unit))=>match o72 with
  | .ret r=>some r
  | .go _=>none
  | .brk s83=>
  (if (ieq p2.op 5)=true then
  ((idx p2.kids 0).bind fun x102=>
  ((idx p2.kids 1).bind fun x103=>
  ((Q0k n [] p0 p1 x102).bind fun r104=>
  ((Q0k n [] p0 p1 x103).bind fun r105=>
  ((Q67 r104 r105).bind fun r106=>
  some (r106))))))
  else
  ((Q0k n [] p0 p1 p2).bind fun r110=>
  ((forL (fun k178 x179 (s172:Unit)=>
  ((Q2r r110 x179.var).bind fun r186=>
  (if (!ieq r186 (k178:Int))=true then
  some (Ctl.ret (false))
  else
  some (Ctl.go ())))) 0 r110 ()).bind fun (o171:Ctl _ (Unit))=>match o171 with
  | .ret r=>some r
  | .go _=>none
  | .brk s182=>
  some (true))))))
def Q7t (n:Nat)(p0:(List Q4))(p1:Q2)(p2:Q0):Option (Bool):=
  ((Q3f n p0 p1 p2 10).bind fun r12=>
  (if r12=true then
  ((Q4w n p2 60).bind fun r14=>
  (if (ile r14 60)=true then
  ((Q3x n p0 p1 p2).bind fun r16=>
  some (r16))
  else
  some (false)))
  else
  some (false)))
def Z0c (n:Nat)(p0:(List Q4))(p1:Q2)(p2:Z6):Option (Bool):=
  ((Q7t n p0 p1 p2.pat).bind fun r9=>
  (if r9=true then
  ((Q0k n [] p0 p1 p2.pat).bind fun r11=>
  ((Q66 p2.guard r11).bind fun r12=>
  some (r12)))
  else
  some (false)))
def Q0s (n:Nat)(p0:(List Q4))(p1:Q2)(p2:(List Z6)):Option (Bool):=
  ((Q37 n p0 p1).bind fun r24=>
  (if (!r24)=true then
  some (false)
  else
  (if (ilt 8 (lenZ p2.length))=true then
  some (false)
  else
  ((forL (fun k95 x96 (s89:Unit)=>
  ((Z0c n p0 p1 x96).bind fun r103=>
  (if (!r103)=true then
  some (Ctl.ret (false))
  else
  some (Ctl.go ())))) 0 p2 ()).bind fun (o88:Ctl _ (Unit))=>match o88 with
  | .ret r=>some r
  | .go _=>none
  | .brk s99=>
  some (true)))))
def Q84 (n:Nat)(p0:(List Q4))(p1:(List Z0))(p2:GFun):Option (Bool):=
  ((Q0s n p0 p2.typ.arg p2.clauses).bind fun r24=>
  (if (!r24)=true then
  some (false)
  else
  (if (!ieq (lenZ p2.bodies.length) (lenZ p2.clauses.length))=true then
  some (false)
  else
  ((forL (fun k125 x126 (s119:Unit)=>
  ((Q0k n [] p0 p2.typ.arg x126.pat).bind fun r136=>
  ((idx p2.bodies (k125:Int)).bind fun x137=>
  ((Q6l n p0 p1 r136 p2.typ.res x137).bind fun r138=>
  (if (!r138)=true then
  some (Ctl.ret (false))
  else
  some (Ctl.go ())))))) 0 p2.clauses ()).bind fun (o118:Ctl _ (Unit))=>match o118 with
  | .ret r=>some r
  | .go _=>none
  | .brk s129=>
  some (true)))))
def Q1v (p0:(List GFun)):Option ((List Z0)):=
  ((forL (fun k50 x51 (s44:(List Z0))=>
  ((app s44 [x51.typ]).bind fun x56=>
  some (Ctl.go x56))) 0 p0 []).bind fun (o43:Ctl _ ((List Z0)))=>match o43 with
  | .ret r=>some r
  | .go _=>none
  | .brk s54=>
  some (s54))
def Q71 (p0:(List GFun)):Option ((List Z0)):=
  ((forL (fun k50 x51 (s44:(List Z0))=>
  ((app s44 [x51.typ]).bind fun x56=>
  some (Ctl.go x56))) 0 p0 []).bind fun (o43:Ctl _ ((List Z0)))=>match o43 with
  | .ret r=>some r
  | .go _=>none
  | .brk s54=>
  some (s54))
def Q0w (n:Nat)(p0:(List Q4))(p1:(List GFun)):Option (Bool):=
  ((Q1v p1).bind fun r1=>
  ((Q1f n p0).bind fun r35=>
  (if (!r35)=true then
  some (false)
  else
  ((Q3j p0 r1).bind fun r38=>
  (if (!r38)=true then
  some (false)
  else
  ((forL (fun k107 x108 (s101:Unit)=>
  ((Q84 n p0 r1 x108).bind fun r115=>
  (if (!r115)=true then
  some (Ctl.ret (false))
  else
  some (Ctl.go ())))) 0 p1 ()).bind fun (o100:Ctl _ (Unit))=>match o100 with
  | .ret r=>some r
  | .go _=>none
  | .brk s111=>
  some (true)))))))
def Z0f (p0:(List Q4)):Option ((List ByteArray)):=
  ((forL (fun k50 x51 (s44:(List ByteArray))=>
  ((app s44 [x51.name]).bind fun x56=>
  some (Ctl.go x56))) 0 p0 []).bind fun (o43:Ctl _ ((List ByteArray)))=>match o43 with
  | .ret r=>some r
  | .go _=>none
  | .brk s54=>
  some (s54))
def Z1e (n:Nat)(p0:(List Q4))(p1:ByteArray):Option (Z0×Bool):=
  ((Q08 n p1 62).bind fun r1=>
  (if (!ieq (lenZ r1.length) 2)=true then
  some (((Z0.mk (Q2.mk 0 0) (Q2.mk 0 0)),false))
  else
  ((Z0f p0).bind fun r4=>
  ((idx r1 0).bind fun x5=>
  ((idx r1 1).bind fun x6=>
  ((Q4n r4 x5).bind fun r7=>
  ((Q4n r4 x6).bind fun r8=>
  ((Q36 p0 r7).bind fun r15=>
  (if r15=true then
  ((Q36 p0 r8).bind fun r17=>
  some (((Z0.mk r7 r8),r17)))
  else
  some (((Z0.mk r7 r8),false)))))))))))
def Q8y (p0:(List Q4))(p1:(List Q5)):Option (Bool):=
  ((forL (fun k314 x315 (s308:Unit)=>
  (if (ilt x315.var 0)=true then
  some (Ctl.ret (false))
  else
  (if (ilt 5 x315.var)=true then
  some (Ctl.ret (false))
  else
  ((Q36 p0 x315.typ).bind fun r364=>
  (if (!r364)=true then
  some (Ctl.ret (false))
  else
  ((Q2r p1 x315.var).bind fun r367=>
  (if (!ieq r367 (k314:Int))=true then
  some (Ctl.ret (false))
  else
  some (Ctl.go ())))))))) 0 p1 ()).bind fun (o307:Ctl _ (Unit))=>match o307 with
  | .ret r=>some r
  | .go _=>none
  | .brk s318=>
  some (true))
def Q6j (n:Nat)(p0:(List Q4))(p1:(List Z0))(p2:(List Q5))(p3:Q2):Option (Bool):=
  ((Q37 n p0 p3).bind fun r12=>
  (if r12=true then
  ((Q3j p0 p1).bind fun r14=>
  (if r14=true then
  ((Q8y p0 p2).bind fun r16=>
  some (r16))
  else
  some (false)))
  else
  some (false)))
def Q1u (p0:ByteArray)(p1:Int)(p2:Int):Option (Bool):=
  (if (ile 0 p1)=true then
  (if (ilt p1 (lenZ p0.size))=true then
  ((sidx p0 p1).bind fun x6=>
  some (ieq x6 p2))
  else
  some (false))
  else
  some (false))
def Q9o (n:Nat)(p0:ByteArray)(p1:Int):Option (ByteArray×Int):=
  ((whileL (fun (s195:Int)=>
  (((if (ilt s195 (lenZ p0.size))=true then
  (if (ieq s195 p1)=true then
  ((sidx p0 s195).bind fun x288=>
  ((Q93 x288).bind fun r289=>
  (if r289=true then
  some (Ctl.brk ())
  else
  (if (ilt p1 s195)=true then
  (if (ile 97 x288)=true then
  (if (ile x288 122)=true then
  some (Ctl.brk ())
  else
  some (Ctl.ret (Ctl.brk s195)))
  else
  some (Ctl.ret (Ctl.brk s195)))
  else
  some (Ctl.ret (Ctl.brk s195))))))
  else
  (if (ilt p1 s195)=true then
  ((sidx p0 s195).bind fun x299=>
  (if (ile 97 x299)=true then
  (if (ile x299 122)=true then
  some (Ctl.brk ())
  else
  some (Ctl.ret (Ctl.brk s195)))
  else
  some (Ctl.ret (Ctl.brk s195))))
  else
  some (Ctl.ret (Ctl.brk s195))))
  else
  some (Ctl.ret (Ctl.brk s195)))).bind fun (o253:Ctl _ (Unit))=>match o253 with
  | .ret r=>some r
  | .go _=>none
  | .brk s252=>
  some (Ctl.go (wadd .i64 s195 1)))) n p1).bind fun (o194:Ctl _ (Int))=>match o194 with
  | .ret r=>some r
  | .go _=>none
  | .brk s205=>
  ((ssub p0 p1 s205).bind fun x302=>
  some ((x302,s205))))
def Q9p (p0:(List Q4))(p1:Q2)(p2:ByteArray):Option (Int):=
  ((Q0f p0 p1).bind fun r1=>
  ((forL (fun k69 x70 (s63:Unit)=>
  ((idx p0 p1.data).bind fun x77=>
  ((idx x77.ctors x70).bind fun x78=>
  (if (seq2 x78.name p2)=true then
  some (Ctl.ret (x70))
  else
  some (Ctl.go ()))))) 0 r1 ()).bind fun (o62:Ctl _ (Unit))=>match o62 with
  | .ret r=>some r
  | .go _=>none
  | .brk s73=>
  some ((-1))))
mutual
def Q6k:Nat→(List Q4)→(List Z0)→Q2→ByteArray→Int→Int→Option (Z1×Int)
 | 0,_,_,_,_,_,_=>none
 | n+1,p0,p1,p2,p3,p4,p5=>
  (if (ilt p5 1)=true then
  some (((Z1.mk 0 0 0 []),(-1)))
  else
  (if (ilt p4 0)=true then
  some (((Z1.mk 0 0 0 []),(-1)))
  else
  (if (ile (lenZ p3.size) p4)=true then
  some (((Z1.mk 0 0 0 []),(-1)))
  else
  ((sidx p3 p4).bind fun x17=>
  (((if (ile 48 x17)=true then
  (if (ile x17 57)=true then
  some (Ctl.ret (((Z1.mk 1 (wcv .i64 (wsub .u8 x17 48)) 0 []),wadd .i64 p4 1)))
  else
  (if (ile 97 x17)=true then
  (if (ile x17 122)=true then
  some (Ctl.ret (((Z1.mk 2 (wcv .i64 (wsub .u8 x17 97)) 0 []),wadd .i64 p4 1)))
  else
  (if (ieq x17 43)=true then
  ((Q0v n p0 p1 [(Q2.mk (-1) 0),(Q2.mk (-1) 0)] p3 (wadd .i64 p4 1) (wsub .i64 p5 1)).bind fun r822=>
  some (Ctl.ret (((Z1.mk 4 0 0 r822.1),r822.2))))
  else
  (if (ieq x17 35)=true then
  (if (ile (lenZ p3.size) (wadd .i64 p4 1))=true then
  some (Ctl.ret (((Z1.mk 0 0 0 []),(-1))))
  else
  ((sidx p3 (wadd .i64 p4 1)).bind fun x844=>
  (if (ilt x844 48)=true then
  some (Ctl.ret (((Z1.mk 0 0 0 []),(-1))))
  else
  (if (ile (lenZ p1.length) (wcv .i64 (wsub .u8 x844 48)))=true then
  some (Ctl.ret (((Z1.mk 0 0 0 []),(-1))))
  else
  ((idx p1 (wcv .i64 (wsub .u8 x844 48))).bind fun x847=>
  ((Q0v n p0 p1 [x847.arg] p3 (wadd .i64 p4 2) (wsub .i64 p5 1)).bind fun r848=>
  some (Ctl.ret (((Z1.mk 5 (wcv .i64 (wsub .u8 x844 48)) 0 r848.1),r848.2)))))))))
  else
  some (Ctl.brk ()))))
  else
  (if (ieq x17 43)=true then
  ((Q0v n p0 p1 [(Q2.mk (-1) 0),(Q2.mk (-1) 0)] p3 (wadd .i64 p4 1) (wsub .i64 p5 1)).bind fun r851=>
  some (Ctl.ret (((Z1.mk 4 0 0 r851.1),r851.2))))
  else
  (if (ieq x17 35)=true then
  (if (ile (lenZ p3.size) (wadd .i64 p4 1))=true then
  some (Ctl.ret (((Z1.mk 0 0 0 []),(-1))))
  else
  ((sidx p3 (wadd .i64 p4 1)).bind fun x873=>
  (if (ilt x873 48)=true then
  some (Ctl.ret (((Z1.mk 0 0 0 []),(-1))))
  else
  (if (ile (lenZ p1.length) (wcv .i64 (wsub .u8 x873 48)))=true then
  some (Ctl.ret (((Z1.mk 0 0 0 []),(-1))))
  else
  ((idx p1 (wcv .i64 (wsub .u8 x873 48))).bind fun x876=>
  ((Q0v n p0 p1 [x876.arg] p3 (wadd .i64 p4 2) (wsub .i64 p5 1)).bind fun r877=>
  some (Ctl.ret (((Z1.mk 5 (wcv .i64 (wsub .u8 x873 48)) 0 r877.1),r877.2)))))))))
  else
  some (Ctl.brk ())))))
  else
  (if (ile 97 x17)=true then
  (if (ile x17 122)=true then
  some (Ctl.ret (((Z1.mk 2 (wcv .i64 (wsub .u8 x17 97)) 0 []),wadd .i64 p4 1)))
  else
  (if (ieq x17 43)=true then
  ((Q0v n p0 p1 [(Q2.mk (-1) 0),(Q2.mk (-1) 0)] p3 (wadd .i64 p4 1) (wsub .i64 p5 1)).bind fun r943=>
  some (Ctl.ret (((Z1.mk 4 0 0 r943.1),r943.2))))
  else
  (if (ieq x17 35)=true then
  (if (ile (lenZ p3.size) (wadd .i64 p4 1))=true then
  some (Ctl.ret (((Z1.mk 0 0 0 []),(-1))))
  else
  ((sidx p3 (wadd .i64 p4 1)).bind fun x965=>
  (if (ilt x965 48)=true then
  some (Ctl.ret (((Z1.mk 0 0 0 []),(-1))))
  else
  (if (ile (lenZ p1.length) (wcv .i64 (wsub .u8 x965 48)))=true then
  some (Ctl.ret (((Z1.mk 0 0 0 []),(-1))))
  else
  ((idx p1 (wcv .i64 (wsub .u8 x965 48))).bind fun x968=>
  ((Q0v n p0 p1 [x968.arg] p3 (wadd .i64 p4 2) (wsub .i64 p5 1)).bind fun r969=>
  some (Ctl.ret (((Z1.mk 5 (wcv .i64 (wsub .u8 x965 48)) 0 r969.1),r969.2)))))))))
  else
  some (Ctl.brk ()))))
  else
  (if (ieq x17 43)=true then
  ((Q0v n p0 p1 [(Q2.mk (-1) 0),(Q2.mk (-1) 0)] p3 (wadd .i64 p4 1) (wsub .i64 p5 1)).bind fun r972=>
  some (Ctl.ret (((Z1.mk 4 0 0 r972.1),r972.2))))
  else
  (if (ieq x17 35)=true then
  (if (ile (lenZ p3.size) (wadd .i64 p4 1))=true then
  some (Ctl.ret (((Z1.mk 0 0 0 []),(-1))))
  else
  ((sidx p3 (wadd .i64 p4 1)).bind fun x994=>
  (if (ilt x994 48)=true then
  some (Ctl.ret (((Z1.mk 0 0 0 []),(-1))))
  else
  (if (ile (lenZ p1.length) (wcv .i64 (wsub .u8 x994 48)))=true then
  some (Ctl.ret (((Z1.mk 0 0 0 []),(-1))))
  else
  ((idx p1 (wcv .i64 (wsub .u8 x994 48))).bind fun x997=>
  ((Q0v n p0 p1 [x997.arg] p3 (wadd .i64 p4 2) (wsub .i64 p5 1)).bind fun r998=>
  some (Ctl.ret (((Z1.mk 5 (wcv .i64 (wsub .u8 x994 48)) 0 r998.1),r998.2)))))))))
  else
  some (Ctl.brk ())))))).bind fun (o508:Ctl _ (Unit))=>match o508 with
  | .ret r=>some r
  | .go _=>none
  | .brk s507=>
  ((Q9o n p3 p4).bind fun r1000=>
  ((Q9p p0 p2 r1000.1).bind fun r1001=>
  (if (ilt r1001 0)=true then
  some (((Z1.mk 0 0 0 []),(-1)))
  else
  ((V2 p0 p2 r1001).bind fun r1004=>
  ((Q0v n p0 p1 r1004 p3 r1000.2 (wsub .i64 p5 1)).bind fun r1005=>
  some (((Z1.mk 3 0 r1001 r1005.1),r1005.2))))))))))))
def Q0v:Nat→(List Q4)→(List Z0)→(List Q2)→ByteArray→Int→Int→Option ((List Z1)×Int)
 | 0,_,_,_,_,_,_=>none
 | n+1,p0,p1,p2,p3,p4,p5=>
  ((forL (fun k192 x193 (s186:Int×(List Z1))=>
  (((if (ieq (k192:Int) 0)=true then
  some (Ctl.brk 40)
  else
  some (Ctl.brk 44))).bind fun (o214:Ctl _ (Int))=>match o214 with
  | .ret r=>some r
  | .go _=>none
  | .brk s213=>
  ((Q1u p3 s186.1 s213).bind fun r221=>
  (if (!r221)=true then
  some (Ctl.ret (([],(-1))))
  else
  ((Q6k n p0 p1 x193 p3 (wadd .i64 s186.1 1) p5).bind fun r223=>
  ((app s186.2 [r223.1]).bind fun x224=>
  some (Ctl.go (r223.2,x224)))))))) 0 p2 (p4,[])).bind fun (o185:Ctl _ (Int×(List Z1)))=>match o185 with
  | .ret r=>some r
  | .go _=>none
  | .brk s196=>
  (if (ieq (lenZ p2.length) 0)=true then
  some ((s196.2,s196.1))
  else
  ((Q1u p3 s196.1 41).bind fun r232=>
  (if (!r232)=true then
  some (([],(-1)))
  else
  some ((s196.2,wadd .i64 s196.1 1))))))
end
def Q9a (n:Nat)(p0:(List Q4))(p1:(List Z0))(p2:(List Q5))(p3:Q2)(p4:ByteArray):Option (Z1×Bool):=
  ((Q6j n p0 p1 p2 p3).bind fun r4=>
  (if (!r4)=true then
  some (((Z1.mk 0 0 0 []),false))
  else
  ((Q6k n p0 p1 p3 p4 0 10).bind fun r6=>
  (if (seq2 p4 (ByteArray.mk #[]))=true then
  some (((Z1.mk 0 0 0 []),false))
  else
  (if (!ieq r6.2 (lenZ p4.size))=true then
  some (((Z1.mk 0 0 0 []),false))
  else
  ((Q6l n p0 p1 p2 p3 r6.1).bind fun r32=>
  (if (!r32)=true then
  some (((Z1.mk 0 0 0 []),false))
  else
  some ((r6.1,true)))))))))
def Z3s (p0:ByteArray)(p1:Int):Option (Q0×Int):=
  ((sidx p0 p1).bind fun x1=>
  ((((Q1u p0 (wadd .i64 p1 1) 45).bind fun r54=>
  (if r54=true then
  (if (ilt (wadd .i64 p1 2) (lenZ p0.size))=true then
  ((sidx p0 (wadd .i64 p1 2)).bind fun x57=>
  (if (ile 48 x57)=true then
  (if (ile x57 57)=true then
  some (Ctl.ret (((Q0.mk 3 0 (wcv .i64 (wsub .u8 x1 48)) (wcv .i64 (wsub .u8 x57 48)) 0 []),wadd .i64 p1 3)))
  else
  some (Ctl.brk ()))
  else
  some (Ctl.brk ())))
  else
  some (Ctl.brk ()))
  else
  some (Ctl.brk ())))).bind fun (o32:Ctl _ (Unit))=>match o32 with
  | .ret r=>some r
  | .go _=>none
  | .brk s31=>
  some (((Q0.mk 3 0 (wcv .i64 (wsub .u8 x1 48)) (wcv .i64 (wsub .u8 x1 48)) 0 []),wadd .i64 p1 1))))
mutual
def Q7f:Nat→(List Q4)→Q2→ByteArray→Int→Int→Option (Q0×Int)
 | 0,_,_,_,_,_=>none
 | n+1,p0,p1,p2,p3,p4=>
  (if (ilt p4 1)=true then
  some (((Q0.mk 0 0 0 0 0 []),(-1)))
  else
  (if (ilt p3 0)=true then
  some (((Q0.mk 0 0 0 0 0 []),(-1)))
  else
  (if (ile (lenZ p2.size) p3)=true then
  some (((Q0.mk 0 0 0 0 0 []),(-1)))
  else
  ((sidx p2 p3).bind fun x17=>
  (((if (ieq x17 95)=true then
  some (Ctl.ret (((Q0.mk 1 0 0 0 0 []),wadd .i64 p3 1)))
  else
  (if (ile 48 x17)=true then
  (if (ile x17 57)=true then
  ((Z3s p2 p3).bind fun r202=>
  some (Ctl.ret ((r202.1,r202.2))))
  else
  (if (ieq x17 40)=true then
  ((Q5h n p0 [p1,p1] [40,124] p2 p3 (wsub .i64 p4 1)).bind fun r205=>
  ((Q1u p2 r205.2 41).bind fun r209=>
  (if (!r209)=true then
  some (Ctl.ret (((Q0.mk 0 0 0 0 0 []),(-1))))
  else
  some (Ctl.ret (((Q0.mk 5 0 0 0 0 r205.1),wadd .i64 r205.2 1))))))
  else
  (if (ile 97 x17)=true then
  (if (ile x17 122)=true then
  ((Q1u p2 (wadd .i64 p3 1) 64).bind fun r226=>
  (if r226=true then
  ((Q5h n p0 [p1] [64] p2 (wadd .i64 p3 1) (wsub .i64 p4 1)).bind fun r228=>
  some (Ctl.ret (((Q0.mk 6 0 0 0 (wcv .i64 (wsub .u8 x17 97)) r228.1),r228.2))))
  else
  some (Ctl.ret (((Q0.mk 2 0 0 0 (wcv .i64 (wsub .u8 x17 97)) []),wadd .i64 p3 1)))))
  else
  some (Ctl.brk ()))
  else
  some (Ctl.brk ()))))
  else
  (if (ieq x17 40)=true then
  ((Q5h n p0 [p1,p1] [40,124] p2 p3 (wsub .i64 p4 1)).bind fun r232=>
  ((Q1u p2 r232.2 41).bind fun r236=>
  (if (!r236)=true then
  some (Ctl.ret (((Q0.mk 0 0 0 0 0 []),(-1))))
  else
  some (Ctl.ret (((Q0.mk 5 0 0 0 0 r232.1),wadd .i64 r232.2 1))))))
  else
  (if (ile 97 x17)=true then
  (if (ile x17 122)=true then
  ((Q1u p2 (wadd .i64 p3 1) 64).bind fun r253=>
  (if r253=true then
  ((Q5h n p0 [p1] [64] p2 (wadd .i64 p3 1) (wsub .i64 p4 1)).bind fun r255=>
  some (Ctl.ret (((Q0.mk 6 0 0 0 (wcv .i64 (wsub .u8 x17 97)) r255.1),r255.2))))
  else
  some (Ctl.ret (((Q0.mk 2 0 0 0 (wcv .i64 (wsub .u8 x17 97)) []),wadd .i64 p3 1)))))
  else
  some (Ctl.brk ()))
  else
  some (Ctl.brk ())))))).bind fun (o137:Ctl _ (Unit))=>match o137 with
  | .ret r=>some r
  | .go _=>none
  | .brk s136=>
  ((Q9o n p2 p3).bind fun r258=>
  ((Q9p p0 p1 r258.1).bind fun r259=>
  (if (ilt r259 0)=true then
  some (((Q0.mk 0 0 0 0 0 []),(-1)))
  else
  ((V2 p0 p1 r259).bind fun r262=>
  ((Q5h n p0 r262 [40,44,44] p2 r258.2 (wsub .i64 p4 1)).bind fun r263=>
  (if (ieq (lenZ r262.length) 0)=true then
  some (((Q0.mk 4 r259 0 0 0 r263.1),r263.2))
  else
  ((Q1u p2 r263.2 41).bind fun r269=>
  (if (!r269)=true then
  some (((Q0.mk 0 0 0 0 0 []),(-1)))
  else
  some (((Q0.mk 4 r259 0 0 0 r263.1),wadd .i64 r263.2 1)))))))))))))))
def Q5h:Nat→(List Q4)→(List Q2)→(List Int)→ByteArray→Int→Int→Option ((List Q0)×Int)
 | 0,_,_,_,_,_,_=>none
 | n+1,p0,p1,p2,p3,p4,p5=>
  ((forL (fun k152 x153 (s146:Int×(List Q0))=>
  ((idx p2 (k152:Int)).bind fun x172=>
  ((Q1u p3 s146.1 x172).bind fun r173=>
  (if (!r173)=true then
  some (Ctl.ret (([],(-1))))
  else
  ((Q7f n p0 x153 p3 (wadd .i64 s146.1 1) p5).bind fun r175=>
  ((app s146.2 [r175.1]).bind fun x176=>
  some (Ctl.go (r175.2,x176)))))))) 0 p1 (p4,[])).bind fun (o145:Ctl _ (Int×(List Q0)))=>match o145 with
  | .ret r=>some r
  | .go _=>none
  | .brk s156=>
  some ((s156.2,s156.1)))
end
def Q7s (p0:ByteArray):Option (Q4u):=
  (if (!ieq (lenZ p0.size) 3)=true then
  some ((Q4u.mk (-1) 0 0))
  else
  ((sidx p0 0).bind fun x3=>
  ((sidx p0 2).bind fun x4=>
  ((((sidx p0 1).bind fun x12=>
  (if (ieq x12 60)=true then
  some (Ctl.brk 1)
  else
  (if (ieq x12 61)=true then
  some (Ctl.brk 2)
  else
  some (Ctl.brk (-1)))))).bind fun (o9:Ctl _ (Int))=>match o9 with
  | .ret r=>some r
  | .go _=>none
  | .brk s8=>
  some ((Q4u.mk s8 (wsub .i64 (wcv .i64 x3) 97) (wsub .i64 (wcv .i64 x4) 48)))))))
def Q3y (p0:Int):Option (ByteArray):=
  some (bstr [wadd .u8 97 (wcv .u8 p0)])
def Q5l:Nat→(List Q4)→Q2→Q0→Option (ByteArray)
 | 0,_,_,_=>none
 | n+1,p0,p1,p2=>
  (if (ieq p2.op 1)=true then
  some ((ByteArray.mk #[95]))
  else
  (if (ieq p2.op 2)=true then
  ((Q3y p2.var).bind fun r39=>
  some (r39))
  else
  (if (ieq p2.op 3)=true then
  (if (ieq p2.n p2.m)=true then
  ((Q1a n p2.n).bind fun r46=>
  some (r46))
  else
  ((Q1a n p2.n).bind fun r48=>
  ((scat r48 (ByteArray.mk #[45])).bind fun x49=>
  ((Q1a n p2.m).bind fun r50=>
  ((scat x49 r50).bind fun x51=>
  some (x51))))))
  else
  (if (ieq p2.op 5)=true then
  ((idx p2.kids 0).bind fun x55=>
  ((idx p2.kids 1).bind fun x56=>
  ((Q5l n p0 p1 x55).bind fun r57=>
  ((scat (ByteArray.mk #[40]) r57).bind fun x58=>
  ((scat x58 (ByteArray.mk #[124])).bind fun x59=>
  ((Q5l n p0 p1 x56).bind fun r60=>
  ((scat x59 r60).bind fun x61=>
  ((scat x61 (ByteArray.mk #[41])).bind fun x62=>
  some (x62)))))))))
  else
  (if (ieq p2.op 6)=true then
  ((idx p2.kids 0).bind fun x66=>
  ((Q3y p2.var).bind fun r67=>
  ((scat r67 (ByteArray.mk #[64])).bind fun x68=>
  ((Q5l n p0 p1 x66).bind fun r69=>
  ((scat x68 r69).bind fun x70=>
  some (x70))))))
  else
  ((idx p0 p1.data).bind fun x73=>
  ((idx x73.ctors p2.ctor).bind fun x74=>
  ((V2 p0 p1 p2.ctor).bind fun r75=>
  ((forL (fun k255 x256 (s249:ByteArray)=>
  (((if (ieq (k255:Int) 0)=true then
  ((scat s249 (ByteArray.mk #[40])).bind fun x282=>
  some (Ctl.brk x282))
  else
  ((scat s249 (ByteArray.mk #[44])).bind fun x283=>
  some (Ctl.brk x283)))).bind fun (o278:Ctl _ (ByteArray))=>match o278 with
  | .ret r=>some r
  | .go _=>none
  | .brk s277=>
  ((idx p2.kids (k255:Int)).bind fun x284=>
  ((Q5l n p0 x256 x284).bind fun r285=>
  ((scat s277 r285).bind fun x286=>
  some (Ctl.go x286)))))) 0 r75 x74.name).bind fun (o248:Ctl _ (ByteArray))=>match o248 with
  | .ret r=>some r
  | .go _=>none
  | .brk s259=>
  (((if (ilt 0 (lenZ r75.length))=true then
  ((scat s259 (ByteArray.mk #[41])).bind fun x295=>
  some (Ctl.brk x295))
  else
  some (Ctl.brk s259))).bind fun (o291:Ctl _ (ByteArray))=>match o291 with
  | .ret r=>some r
  | .go _=>none
  | .brk s290=>
  some (s290)))))))))))
def Q9n (n:Nat)(p0:(List Q4))(p1:Q2)(p2:Z6):Option (ByteArray):=
  ((Q5l n p0 p1 p2.pat).bind fun r1=>
  (((if (ieq p2.guard.op 1)=true then
  ((scat r1 (ByteArray.mk #[32])).bind fun x25=>
  ((Q3y p2.guard.var).bind fun r26=>
  ((scat x25 r26).bind fun x27=>
  ((scat x27 (ByteArray.mk #[60])).bind fun x28=>
  ((Q1a n p2.guard.n).bind fun r29=>
  ((scat x28 r29).bind fun x30=>
  some (Ctl.brk x30)))))))
  else
  (if (ieq p2.guard.op 2)=true then
  ((scat r1 (ByteArray.mk #[32])).bind fun x34=>
  ((Q3y p2.guard.var).bind fun r35=>
  ((scat x34 r35).bind fun x36=>
  ((scat x36 (ByteArray.mk #[61])).bind fun x37=>
  ((Q1a n p2.guard.n).bind fun r38=>
  ((scat x37 r38).bind fun x39=>
  some (Ctl.brk x39)))))))
  else
  some (Ctl.brk r1)))).bind fun (o21:Ctl _ (ByteArray))=>match o21 with
  | .ret r=>some r
  | .go _=>none
  | .brk s20=>
  some (s20)))
def Z1b (n:Nat)(p0:(List Q4))(p1:Q2)(p2:(List Z6)):Option (ByteArray):=
  ((forL (fun k150 x151 (s144:ByteArray)=>
  (((if (ilt 0 (k150:Int))=true then
  ((scat s144 (ByteArray.mk #[47])).bind fun x173=>
  some (Ctl.brk x173))
  else
  some (Ctl.brk s144))).bind fun (o169:Ctl _ (ByteArray))=>match o169 with
  | .ret r=>some r
  | .go _=>none
  | .brk s168=>
  ((Q9n n p0 p1 x151).bind fun r174=>
  ((scat s168 r174).bind fun x175=>
  some (Ctl.go x175))))) 0 p2 (ByteArray.mk #[])).bind fun (o143:Ctl _ (ByteArray))=>match o143 with
  | .ret r=>some r
  | .go _=>none
  | .brk s154=>
  some (s154))
def Q7v (n:Nat)(p0:(List Q4))(p1:Q2)(p2:ByteArray):Option ((List Z6)×Bool):=
  ((Q37 n p0 p1).bind fun r4=>
  (if (!r4)=true then
  some (([],false))
  else
  ((Q08 n p2 47).bind fun r6=>
  ((forL (fun k452 x453 (s446:(List Z6))=>
  (if (ile (k452:Int) 8)=true then
  (if (!seq2 p2 (ByteArray.mk #[]))=true then
  ((Q08 n x453 32).bind fun r501=>
  ((idx r501 0).bind fun x502=>
  ((Q7f n p0 p1 x502 0 10).bind fun r503=>
  (if (!ieq r503.2 (lenZ x502.size))=true then
  some (Ctl.ret (([],false)))
  else
  (if (seq2 x502 (ByteArray.mk #[]))=true then
  some (Ctl.ret (([],false)))
  else
  (if (ilt 2 (lenZ r501.length))=true then
  some (Ctl.ret (([],false)))
  else
  (((if (ieq (lenZ r501.length) 2)=true then
  ((idx r501 1).bind fun x529=>
  ((Q7s x529).bind fun r530=>
  some (Ctl.brk (r530.op,r530.var,r530.n))))
  else
  some (Ctl.brk (0,0,0)))).bind fun (o525:Ctl _ (Int×Int×Int))=>match o525 with
  | .ret r=>some r
  | .go _=>none
  | .brk s524=>
  ((app s446 [(Z6.mk r503.1 (Q4u.mk s524.1 s524.2.1 s524.2.2))]).bind fun x532=>
  some (Ctl.go x532)))))))))
  else
  some (Ctl.brk s446))
  else
  some (Ctl.brk s446))) 0 r6 []).bind fun (o445:Ctl _ ((List Z6)))=>match o445 with
  | .ret r=>some r
  | .go _=>none
  | .brk s456=>
  ((Q0s n p0 p1 s456).bind fun r568=>
  (if (!r568)=true then
  some (([],false))
  else
  ((Z1b n p0 p1 s456).bind fun r571=>
  (if (!seq2 r571 p2)=true then
  some (([],false))
  else
  some ((s456,true))))))))))
def Q99 (n:Nat)(p0:(List Q4))(p1:(List Z0))(p2:GFun)(p3:ByteArray):Option (GFun×Bool):=
  ((Q08 n p3 32).bind fun r1=>
  (if (ilt (lenZ r1.length) 2)=true then
  some ((p2,false))
  else
  (if (ilt 3 (lenZ r1.length))=true then
  some ((p2,false))
  else
  ((idx r1 0).bind fun x12=>
  (((if (ieq (lenZ r1.length) 3)=true then
  ((scat x12 (ByteArray.mk #[32])).bind fun x22=>
  ((idx r1 1).bind fun x23=>
  ((scat x22 x23).bind fun x24=>
  some (Ctl.brk x24))))
  else
  some (Ctl.brk x12))).bind fun (o18:Ctl _ (ByteArray))=>match o18 with
  | .ret r=>some r
  | .go _=>none
  | .brk s17=>
  ((Q7v n p0 p2.typ.arg s17).bind fun r25=>
  (if (!r25.2)=true then
  some ((p2,false))
  else
  (if (!ieq (lenZ r25.1.length) 1)=true then
  some ((p2,false))
  else
  ((idx r25.1 0).bind fun x36=>
  ((idx r1 (wsub .i64 (lenZ r1.length) 1)).bind fun x37=>
  ((Q0k n [] p0 p2.typ.arg x36.pat).bind fun r38=>
  ((Q9a n p0 p1 r38 p2.typ.res x37).bind fun r39=>
  ((app [] p2.clauses).bind fun x40=>
  ((app p2.clauses [x36]).bind fun x41=>
  ((app [] p2.bodies).bind fun x42=>
  ((app p2.bodies [r39.1]).bind fun x43=>
  some (((GFun.mk p2.typ x41 x43),r39.2))))))))))))))))))
def Q4y:Nat→(List Q4)→(List Z0)→Q2→Z1→Option (ByteArray)
 | 0,_,_,_,_=>none
 | n+1,p0,p1,p2,p3=>
  (if (ieq p3.op 1)=true then
  ((Q1a n p3.n).bind fun r30=>
  some (r30))
  else
  (if (ieq p3.op 2)=true then
  ((Q3y p3.n).bind fun r33=>
  some (r33))
  else
  (if (ieq p3.op 4)=true then
  ((idx p3.kids 0).bind fun x36=>
  ((idx p3.kids 1).bind fun x37=>
  ((Q4y n p0 p1 (Q2.mk (-1) 0) x36).bind fun r38=>
  ((scat (ByteArray.mk #[43,40]) r38).bind fun x39=>
  ((scat x39 (ByteArray.mk #[44])).bind fun x40=>
  ((Q4y n p0 p1 (Q2.mk (-1) 0) x37).bind fun r41=>
  ((scat x40 r41).bind fun x42=>
  ((scat x42 (ByteArray.mk #[41])).bind fun x43=>
  some (x43)))))))))
  else
  (if (ieq p3.op 5)=true then
  ((idx p1 p3.n).bind fun x47=>
  ((idx p3.kids 0).bind fun x48=>
  ((Q1a n p3.n).bind fun r49=>
  ((scat (ByteArray.mk #[35]) r49).bind fun x50=>
  ((scat x50 (ByteArray.mk #[40])).bind fun x51=>
  ((Q4y n p0 p1 x47.arg x48).bind fun r52=>
  ((scat x51 r52).bind fun x53=>
  ((scat x53 (ByteArray.mk #[41])).bind fun x54=>
  some (x54)))))))))
  else
  ((idx p0 p2.data).bind fun x57=>
  ((idx x57.ctors p3.ctor).bind fun x58=>
  ((V2 p0 p2 p3.ctor).bind fun r59=>
  ((forL (fun k239 x240 (s233:ByteArray)=>
  (((if (ieq (k239:Int) 0)=true then
  ((scat s233 (ByteArray.mk #[40])).bind fun x266=>
  some (Ctl.brk x266))
  else
  ((scat s233 (ByteArray.mk #[44])).bind fun x267=>
  some (Ctl.brk x267)))).bind fun (o262:Ctl _ (ByteArray))=>match o262 with
  | .ret r=>some r
  | .go _=>none
  | .brk s261=>
  ((idx p3.kids (k239:Int)).bind fun x268=>
  ((Q4y n p0 p1 x240 x268).bind fun r269=>
  ((scat s261 r269).bind fun x270=>
  some (Ctl.go x270)))))) 0 r59 x58.name).bind fun (o232:Ctl _ (ByteArray))=>match o232 with
  | .ret r=>some r
  | .go _=>none
  | .brk s243=>
  (((if (ilt 0 (lenZ r59.length))=true then
  ((scat s243 (ByteArray.mk #[41])).bind fun x279=>
  some (Ctl.brk x279))
  else
  some (Ctl.brk s243))).bind fun (o275:Ctl _ (ByteArray))=>match o275 with
  | .ret r=>some r
  | .go _=>none
  | .brk s274=>
  some (s274))))))))))
def Z1f (n:Nat)(p0:(List Q4))(p1:(List Z0))(p2:GFun):Option (ByteArray):=
  ((Q8f n p0 p2.typ.arg).bind fun r1=>
  ((scat r1 (ByteArray.mk #[62])).bind fun x2=>
  ((Q8f n p0 p2.typ.res).bind fun r3=>
  ((scat x2 r3).bind fun x4=>
  ((forL (fun k134 x135 (s128:ByteArray)=>
  ((scat s128 (ByteArray.mk #[47])).bind fun x148=>
  ((idx p2.bodies (k134:Int)).bind fun x149=>
  ((Q9n n p0 p2.typ.arg x135).bind fun r150=>
  ((scat x148 r150).bind fun x151=>
  ((scat x151 (ByteArray.mk #[32])).bind fun x152=>
  ((Q4y n p0 p1 p2.typ.res x149).bind fun r153=>
  ((scat x152 r153).bind fun x154=>
  some (Ctl.go x154))))))))) 0 p2.clauses x4).bind fun (o127:Ctl _ (ByteArray))=>match o127 with
  | .ret r=>some r
  | .go _=>none
  | .brk s138=>
  some (s138))))))
def Z0e (n:Nat)(p0:(List Q4))(p1:(List GFun)):Option (ByteArray):=
  ((forL (fun k170 x171 (s164:ByteArray)=>
  (((if (ilt 0 (k170:Int))=true then
  ((scat s164 (ByteArray.mk #[59])).bind fun x195=>
  some (Ctl.brk x195))
  else
  some (Ctl.brk s164))).bind fun (o191:Ctl _ (ByteArray))=>match o191 with
  | .ret r=>some r
  | .go _=>none
  | .brk s190=>
  ((Q1v p1).bind fun r196=>
  ((Z1f n p0 r196 x171).bind fun r197=>
  ((scat s190 r197).bind fun x198=>
  some (Ctl.go x198)))))) 0 p1 (ByteArray.mk #[])).bind fun (o163:Ctl _ (ByteArray))=>match o163 with
  | .ret r=>some r
  | .go _=>none
  | .brk s174=>
  some (s174))
def Q5y (n:Nat)(p0:(List Q4))(p1:ByteArray):Option ((List GFun)×Bool):=
  ((Q1f n p0).bind fun r4=>
  (if (!r4)=true then
  some (([],false))
  else
  ((Q08 n p1 59).bind fun r6=>
  ((forL (fun k192 x193 (s186:(List GFun))=>
  (if (ile (k192:Int) 4)=true then
  (if (!seq2 p1 (ByteArray.mk #[]))=true then
  ((Q08 n x193 47).bind fun r215=>
  ((idx r215 0).bind fun x216=>
  ((Z1e n p0 x216).bind fun r217=>
  (if (!r217.2)=true then
  some (Ctl.ret (([],false)))
  else
  ((app s186 [(GFun.mk r217.1 [] [])]).bind fun x220=>
  some (Ctl.go (s186++[(GFun.mk r217.1 [] [])])))))))
  else
  some (Ctl.brk s186))
  else
  some (Ctl.brk s186))) 0 r6 []).bind fun (o185:Ctl _ ((List GFun)))=>match o185 with
  | .ret r=>some r
  | .go _=>none
  | .brk s196=>
  ((Q71 s196).bind fun r228=>
  ((Q3j p0 r228).bind fun r229=>
  (if (!r229)=true then
  some (([],false))
  else
  ((whileL (fun (s1268:(List GFun)×Int)=>
  (if (ilt s1268.2 (lenZ s1268.1.length))=true then
  ((idx r6 s1268.2).bind fun x1382=>
  ((Q08 n x1382 47).bind fun r1383=>
  ((whileL (fun (s1443:(List GFun)×Int)=>
  (if (ilt s1443.2 (lenZ r1383.length))=true then
  (if (ile s1443.2 9)=true then
  ((idx s1443.1 s1268.2).bind fun x1473=>
  ((idx r1383 s1443.2).bind fun x1474=>
  ((Q71 s1443.1).bind fun r1475=>
  ((Q99 n p0 r1475 x1473 x1474).bind fun r1476=>
  (if (!r1476.2)=true then
  some (Ctl.ret (Ctl.ret (([],false))))
  else
  ((setI s1443.1 s1268.2 r1476.1).bind fun x1479=>
  some (Ctl.go (x1479,wadd .i64 s1443.2 1))))))))
  else
  some (Ctl.brk (s1443.1,s1443.2)))
  else
  some (Ctl.brk (s1443.1,s1443.2)))) n (s1268.1,1)).bind fun (o1442:Ctl _ ((List GFun)×Int))=>match o1442 with
  | .ret r=>some r
  | .go _=>none
  | .brk s1453=>
  some (Ctl.go (s1453.1,wadd .i64 s1268.2 1)))))
  else
  some (Ctl.brk (s1268.1,s1268.2)))) n (s196,0)).bind fun (o1267:Ctl _ ((List GFun)×Int))=>match o1267 with
  | .ret r=>some r
  | .go _=>none
  | .brk s1278=>
  ((Q0w n p0 s1278.1).bind fun r1516=>
  (if (!r1516)=true then
  some (([],false))
  else
  ((Z0e n p0 s1278.1).bind fun r1519=>
  (if (!seq2 r1519 p1)=true then
  some (([],false))
  else
  some ((s1278.1,true))))))))))))))
def Q69 (n:Nat)(p0:X3):Option ((List Q4)×(List GFun)×X3):=
  ((Q0l).bind fun r1=>
  ((Z3 p0 (lenZ r1.length)).bind fun r2=>
  ((Q8x).bind fun r3=>
  ((idx r3 r2.1).bind fun x4=>
  ((Q72 n x4).bind fun r5=>
  ((Q0l).bind fun r6=>
  ((idx r6 r2.1).bind fun x7=>
  ((Z3 r2.2 (lenZ x7.length)).bind fun r8=>
  ((idx x7 r8.1).bind fun x9=>
  ((Q5y n r5.1 x9).bind fun r10=>
  some ((r5.1,r10.1,r8.2))))))))))))
def Z27 (p0:Q2):Option (Int):=
  some (wadd .i64 (wmul .i64 p0.data 4) p0.index)
def Q1r (p0:(List Int))(p1:Q2):Option (Int):=
  (if (ieq p1.data (-1))=true then
  some (1)
  else
  ((Z27 p1).bind fun r3=>
  ((idx p0 r3).bind fun x4=>
  some (x4))))
def Q5m (p0:(List Q4))(p1:(List Int))(p2:Q2)(p3:Int):Option (Int):=
  ((V2 p0 p2 p3).bind fun r1=>
  ((forL (fun k111 x112 (s105:Int)=>
  ((((Q1r p1 x112).bind fun r125=>
  (if (ieq r125 0)=true then
  some (Ctl.ret (Ctl.ret (0)))
  else
  (if (ilt s105 r125)=true then
  some (Ctl.brk r125)
  else
  some (Ctl.brk s105))))).bind fun (o122:Ctl _ (Int))=>match o122 with
  | .ret r=>some r
  | .go _=>none
  | .brk s121=>
  some (Ctl.go s121))) 0 r1 0).bind fun (o104:Ctl _ (Int))=>match o104 with
  | .ret r=>some r
  | .go _=>none
  | .brk s115=>
  some (wadd .i64 s115 1)))
def Q19 (n:Nat)(p0:(List Q4)):Option ((List Int)):=
  ((mkS (wmul .i64 (lenZ p0.length) 4) 0).bind fun x1=>
  ((whileL (fun (s8509:(List Int)×Int)=>
  (if (ile s8509.2 (lenZ s8509.1.length))=true then
  ((whileL (fun (s9929:(List Int)×Int)=>
  (if (ilt s9929.2 (lenZ s9929.1.length))=true then
  ((Q0f p0 (Q2.mk (wquo .i64 s9929.2 4) (wrem s9929.2 4))).bind fun r10080=>
  ((forL (fun k10174 x10175 (s10168:(List Int))=>
  ((((Q5m p0 s10168 (Q2.mk (wquo .i64 s9929.2 4) (wrem s9929.2 4)) x10175).bind fun r10200=>
  (if (ilt 0 r10200)=true then
  ((idx s10168 s9929.2).bind fun x10211=>
  (if (ieq x10211 0)=true then
  ((setI s10168 s9929.2 r10200).bind fun x10213=>
  some (Ctl.brk x10213))
  else
  (if (ilt r10200 x10211)=true then
  ((setI s10168 s9929.2 r10200).bind fun x10215=>
  some (Ctl.brk x10215))
  else
  some (Ctl.brk s10168))))
  else
  some (Ctl.brk s10168)))).bind fun (o10197:Ctl _ ((List Int)))=>match o10197 with
  | .ret r=>some r
  | .go _=>none
  | .brk s10196=>
  some (Ctl.go s10196))) 0 r10080 s9929.1).bind fun (o10167:Ctl _ ((List Int)))=>match o10167 with
  | .ret r=>some r
  | .go _=>none
  | .brk s10178=>
  some (Ctl.go (s10178,wadd .i64 s9929.2 1))))
  else
  some (Ctl.brk (s9929.1,s9929.2)))) n (s8509.1,0)).bind fun (o9928:Ctl _ ((List Int)×Int))=>match o9928 with
  | .ret r=>some r
  | .go _=>none
  | .brk s9939=>
  some (Ctl.go (s9939.1,wadd .i64 s8509.2 1)))
  else
  some (Ctl.brk (s8509.1,s8509.2)))) n (x1,0)).bind fun (o8508:Ctl _ ((List Int)×Int))=>match o8508 with
  | .ret r=>some r
  | .go _=>none
  | .brk s8519=>
  some (s8519.1)))
def X8 (p0:X3)(p1:(List Int)):Option (Int×X3):=
  ((Z3 p0 (lenZ p1.length)).bind fun r1=>
  ((idx p1 r1.1).bind fun x2=>
  some ((x2,r1.2))))
def Q1b:Nat→X3→Z1→Option (Z1×X3)
 | 0,_,_=>none
 | n+1,p0,p1=>
  ((app [] p1.kids).bind fun x1=>
  ((((Z3 p0 24).bind fun r24=>
  (if (ieq r24.1 0)=true then
  ((X8 r24.2 [0,6,1,2,5]).bind fun r26=>
  some (Ctl.brk (r26.2,r26.1,p1.n,p1.kids)))
  else
  (if (ieq r24.1 1)=true then
  ((X8 r24.2 [10,(-1),3]).bind fun r29=>
  some (Ctl.brk (r29.2,p1.op,r29.1,p1.kids)))
  else
  (if (ieq r24.1 2)=true then
  ((app p1.kids [(Z1.mk 1 0 0 [])]).bind fun x32=>
  some (Ctl.brk (r24.2,p1.op,p1.n,(p1.kids++[(Z1.mk 1 0 0 [])]))))
  else
  (if (ieq r24.1 3)=true then
  (if (ilt 0 (lenZ p1.kids.length))=true then
  ((idx p1.kids 0).bind fun x35=>
  ((Q1b n r24.2 x35).bind fun r36=>
  ((Q1b n r36.2 r36.1).bind fun r37=>
  ((setI p1.kids 0 r37.1).bind fun x38=>
  some (Ctl.brk (r37.2,p1.op,p1.n,x38))))))
  else
  some (Ctl.brk (r24.2,p1.op,p1.n,p1.kids)))
  else
  some (Ctl.brk (r24.2,p1.op,p1.n,p1.kids)))))))).bind fun (o21:Ctl _ (X3×Int×Int×(List Z1)))=>match o21 with
  | .ret r=>some r
  | .go _=>none
  | .brk s20=>
  some (((Z1.mk s20.2.1 s20.2.2.1 p1.ctor s20.2.2.2),s20.1))))
def Q2i (n:Nat)(p0:X3)(p1:(List GFun)):Option ((List GFun)×X3):=
  ((forL (fun k66 x67 (s62:(List GFun))=>
  ((app [] x67.clauses).bind fun x74=>
  ((app [] x67.bodies).bind fun x75=>
  ((app s62 [x67]).bind fun x76=>
  some (Ctl.go (s62++[x67])))))) 0 p1 []).bind fun (o61:Ctl _ ((List GFun)))=>match o61 with
  | .ret r=>some r
  | .go _=>none
  | .brk s70=>
  (if (ieq (lenZ s70.length) 0)=true then
  some ((s70,p0))
  else
  ((Z3 p0 (lenZ s70.length)).bind fun r79=>
  ((((Z3 r79.2 24).bind fun r124=>
  (if (ieq r124.1 0)=true then
  ((X8 r124.2 [1,2,4,0]).bind fun r126=>
  ((idx s70 r79.1).bind fun x127=>
  ((setI s70 r79.1 (GFun.mk (Z0.mk x127.typ.arg (Q2.mk x127.typ.res.data r126.1)) x127.clauses x127.bodies)).bind fun x128=>
  some (Ctl.brk (r126.2,x128)))))
  else
  (if (ieq r124.1 1)=true then
  none
  else
  (if (ieq r124.1 2)=true then
  none
  else
  (if (ieq r124.1 3)=true then
  ((Z06 s70 r79.1).bind fun x132=>
  some (Ctl.brk (r124.2,x132)))
  else
  (if (ieq r124.1 4)=true then
  ((whileL (fun (s144:(List GFun))=>
  (if (ile (lenZ s144.length) 4)=true then
  ((idx s144 0).bind fun x155=>
  ((app s144 [x155]).bind fun x156=>
  some (Ctl.go x156)))
  else
  some (Ctl.brk s144))) n s70).bind fun (o143:Ctl _ ((List GFun)))=>match o143 with
  | .ret r=>some r
  | .go _=>none
  | .brk s152=>
  some (Ctl.brk (r124.2,s152)))
  else
  (if (ieq r124.1 5)=true then
  ((idx s70 r79.1).bind fun x158=>
  (if (ilt 1 (lenZ x158.clauses.length))=true then
  ((Z30 x158.clauses 1).bind fun x160=>
  ((setI s70 r79.1 (GFun.mk x158.typ x160 x158.bodies)).bind fun x161=>
  ((idx x161 r79.1).bind fun x162=>
  ((Z30 x162.bodies 1).bind fun x163=>
  ((setI x161 r79.1 (GFun.mk x162.typ x162.clauses x163)).bind fun x164=>
  some (Ctl.brk (r124.2,x164)))))))
  else
  some (Ctl.brk (r124.2,s70))))
  else
  some (Ctl.brk (r124.2,s70)))))))))).bind fun (o122:Ctl _ (X3×(List GFun)))=>match o122 with
  | .ret r=>some r
  | .go _=>none
  | .brk s121=>
  some ((s121.2,s121.1))))))
def Q57 (n:Nat)(p0:X3)(p1:(List GFun)):Option ((List GFun)×X3):=
  ((chk (decide (p1.length≤1000)&&p1.all fun x=>decide (x.clauses.length≤1000)&&decide (x.bodies.length≤1000))).bind fun _=>
  ((Z3 p0 (lenZ p1.length)).bind fun a=>
  ((Z3 a.2 24).bind fun b=>
  ((idx p1 a.1).bind fun x=>
  (if (ieq b.1 1)=true then
  some ((p1.set a.1.toNat (GFun.mk x.typ x.clauses (x.bodies++[(Z1.mk 1 0 0 [])])),b.2))
  else
  (if (ieq b.1 2)=true then
  (if (ilt 0 (lenZ x.bodies.length))=true then
  ((idx x.bodies 0).bind fun e=>
  ((Q1b n b.2 e).bind fun c=>
  ((Q1b n c.2 c.1).bind fun d=>
  some ((p1.set a.1.toNat (GFun.mk x.typ x.clauses (x.bodies.set 0 d.1)),d.2)))))
  else
  some ((p1,b.2)))
  else
  none))))))
def Q4f (n:Nat)(p0:X3)(p1:(List GFun)):Option ((List GFun)×X3):=
  match Q2i n p0 p1 with
  | some r=>some r
  | none=>Q57 n p0 p1
def Y7:Nat→X3→(List Q4)→(List Int)→Q2→Int→Option (Q1×X3)
 | 0,_,_,_,_,_=>none
 | n+1,p0,p1,p2,p3,p4=>
  (if (ieq p3.data (-1))=true then
  ((Z3 p0 10).bind fun r5=>
  some (((Q1.mk (-1) r5.1 []),r5.2)))
  else
  ((Q0f p1 p3).bind fun r7=>
  ((forL (fun k267 x268 (s261:(List Int))=>
  ((((Q5m p1 p2 p3 x268).bind fun r296=>
  (if (ilt 0 r296)=true then
  (if (ile r296 p4)=true then
  ((app s261 [x268]).bind fun x310=>
  some (Ctl.brk x310))
  else
  ((Q1r p2 p3).bind fun r311=>
  (if (ieq r296 r311)=true then
  ((app s261 [x268]).bind fun x313=>
  some (Ctl.brk x313))
  else
  some (Ctl.brk s261))))
  else
  some (Ctl.brk s261)))).bind fun (o293:Ctl _ ((List Int)))=>match o293 with
  | .ret r=>some r
  | .go _=>none
  | .brk s292=>
  some (Ctl.go s292))) 0 r7 []).bind fun (o260:Ctl _ ((List Int)))=>match o260 with
  | .ret r=>some r
  | .go _=>none
  | .brk s271=>
  ((Z3 p0 (lenZ s271.length)).bind fun r316=>
  ((idx s271 r316.1).bind fun x317=>
  ((V2 p1 p3 x317).bind fun r318=>
  ((forL (fun k390 x391 (s384:X3×(List Q1))=>
  ((Y7 n s384.1 p1 p2 x391 (wsub .i64 p4 1)).bind fun r398=>
  ((app s384.2 [r398.1]).bind fun x399=>
  some (Ctl.go (r398.2,x399))))) 0 r318 (r316.2,[])).bind fun (o383:Ctl _ (X3×(List Q1)))=>match o383 with
  | .ret r=>some r
  | .go _=>none
  | .brk s394=>
  some (((Q1.mk x317 0 s394.2),s394.1)))))))))
def Q3z:Nat→X3→Q1→Option (Q1×X3)
 | 0,_,_=>none
 | n+1,p0,p1=>
  ((app [] p1.kids).bind fun x1=>
  ((((Z3 p0 24).bind fun r24=>
  (if (ieq r24.1 0)=true then
  ((X8 r24.2 [0,1,(-1),9,(-2)]).bind fun r26=>
  some (Ctl.brk (r26.2,r26.1,p1.n,p1.kids)))
  else
  (if (ieq r24.1 1)=true then
  ((X8 r24.2 [10,(-1),1]).bind fun r29=>
  some (Ctl.brk (r29.2,p1.ctor,r29.1,p1.kids)))
  else
  (if (ieq r24.1 2)=true then
  ((app p1.kids [(Q1.mk (-1) 0 [])]).bind fun x32=>
  some (Ctl.brk (r24.2,p1.ctor,p1.n,(p1.kids++[(Q1.mk (-1) 0 [])]))))
  else
  (if (ieq r24.1 3)=true then
  (if (ilt 0 (lenZ p1.kids.length))=true then
  ((idx p1.kids 0).bind fun x35=>
  ((Q3z n r24.2 x35).bind fun r36=>
  ((Q3z n r36.2 r36.1).bind fun r37=>
  ((setI p1.kids 0 r37.1).bind fun x38=>
  some (Ctl.brk (r37.2,p1.ctor,p1.n,x38))))))
  else
  some (Ctl.brk (r24.2,p1.ctor,p1.n,p1.kids)))
  else
  some (Ctl.brk (r24.2,p1.ctor,p1.n,p1.kids)))))))).bind fun (o21:Ctl _ (X3×Int×Int×(List Q1)))=>match o21 with
  | .ret r=>some r
  | .go _=>none
  | .brk s20=>
  some (((Q1.mk s20.2.1 s20.2.2.1 s20.2.2.2),s20.1))))
def Q7g (n:Nat)(p0:(List Int)):Option ((List Q4)×(List GFun)×Int×Q1×Int):=
  ((Q3h p0).bind fun r1=>
  ((Q69 n r1).bind fun r2=>
  ((Z3 r2.2.2 (lenZ r2.2.1.length)).bind fun r3=>
  ((idx r2.2.1 r3.1).bind fun x4=>
  ((Q19 n r2.1).bind fun r5=>
  ((X8 r3.2 [3,4,2,1]).bind fun r6=>
  ((Y7 n r6.2 r2.1 r5 x4.typ.arg r6.1).bind fun r7=>
  ((((Z3 r7.2 16).bind fun r17=>
  (if (ieq r17.1 0)=true then
  ((X8 r17.2 [(-1),4,0]).bind fun r19=>
  some (Ctl.brk (r19.2,r19.1)))
  else
  some (Ctl.brk (r17.2,r3.1))))).bind fun (o14:Ctl _ (X3×Int))=>match o14 with
  | .ret r=>some r
  | .go _=>none
  | .brk s13=>
  ((Q4f n s13.1 r2.2.1).bind fun r22=>
  ((Q3z n r22.2 r7.1).bind fun r23=>
  ((X8 r23.2 [300,100,20,3,0,301,(-1)]).bind fun r24=>
  some ((r2.1,r22.1,s13.2,r23.1,r24.1)))))))))))))
def Q2k (n:Nat)(p0:(List Int)):Option ((List Q4)×(List GFun)×Int×Q1×Int):=
  ((Q7g n p0).bind fun r1=>
  some ((r1.1,r1.2.1,r1.2.2.1,r1.2.2.2.1,r1.2.2.2.2)))
def Q43 (p0:(List GFun)):Option ((List Z0)):=
  ((forL (fun k50 x51 (s44:(List Z0))=>
  ((app s44 [x51.typ]).bind fun x56=>
  some (Ctl.go x56))) 0 p0 []).bind fun (o43:Ctl _ ((List Z0)))=>match o43 with
  | .ret r=>some r
  | .go _=>none
  | .brk s54=>
  some (s54))
def X9 (p0:Int)(p1:Int)(p2:Int):Option (Bool):=
  (if (ile p1 p0)=true then
  some (ile p0 p2)
  else
  some (false))
def Q9c (n:Nat)(p0:ByteArray):Option (Bool):=
  ((X9 (lenZ p0.size) 1 5).bind fun r39=>
  (if (!r39)=true then
  some (false)
  else
  ((sidx p0 0).bind fun x42=>
  (if (ilt x42 65)=true then
  some (false)
  else
  (if (ilt 90 x42)=true then
  some (false)
  else
  ((whileL (fun (s151:Int)=>
  (if (ilt s151 (lenZ p0.size))=true then
  ((sidx p0 s151).bind fun x177=>
  (if (ilt x177 97)=true then
  some (Ctl.ret (false))
  else
  (if (ilt 122 x177)=true then
  some (Ctl.ret (false))
  else
  some (Ctl.go (wadd .i64 s151 1)))))
  else
  some (Ctl.brk s151))) n 1).bind fun (o150:Ctl _ (Int))=>match o150 with
  | .ret r=>some r
  | .go _=>none
  | .brk s161=>
  some (true)))))))
def Q5n (p0:(List Q2))(p1:(Q2→Option Bool)):Option (Int):=
  ((forL (fun k68 x69 (s62:Unit)=>
  ((p1 x69).bind fun r76=>
  (if r76=true then
  some (Ctl.ret ((k68:Int)))
  else
  some (Ctl.go ())))) 0 p0 ()).bind fun (o61:Ctl _ (Unit))=>match o61 with
  | .ret r=>some r
  | .go _=>none
  | .brk s72=>
  some ((-1)))
def Q4e (p0:(List Q2))(p1:(Q2→Option Bool)):Option (Bool):=
  ((Q5n p0 p1).bind fun r1=>
  some (ile 0 r1))
def Z3t (p0:(List Q4))(p1:Q2):Option (Bool):=
  (if (Q7x [ieq p1.data (-1),ieq p1.index 0])=true then
  some (true)
  else
  ((X9 p1.data 0 (wsub .i64 (lenZ p0.length) 1)).bind fun r9=>
  (if r9=true then
  ((X9 p1.index (-1) 3).bind fun r11=>
  some (r11))
  else
  some (false))))
def Z0h (p0:Q2)(q0:(List Q4)):Option (Bool):=
  ((Z3t q0 p0).bind fun r1=>
  some ((!r1)))
def Z2c (n:Nat)(p0:(List Q4))(p1:Q96):Option (Bool):=
  ((Q9c n p1.name).bind fun r14=>
  (if r14=true then
  (if (ile (lenZ p1.args.length) 3)=true then
  ((X9 p1.index 0 3).bind fun r17=>
  (if r17=true then
  ((Q4e p1.args (fun a0=>Z0h a0 p0)).bind fun r19=>
  some ((!r19)))
  else
  some (false)))
  else
  some (false))
  else
  some (false)))
def Q3q (n:Nat)(p0:(List Q4)):Option (Bool):=
  (if (ilt 4 (lenZ p0.length))=true then
  some (false)
  else
  ((forL (fun k2464 x2465 (s2458:(List (ByteArray×Bool))×(List (ByteArray×Bool)))=>
  (if (!ieq (lenZ x2465.name.size) 1)=true then
  some (Ctl.ret (false))
  else
  ((sidx x2465.name 0).bind fun x2755=>
  (if (ilt x2755 65)=true then
  some (Ctl.ret (false))
  else
  (if (ilt 90 x2755)=true then
  some (Ctl.ret (false))
  else
  (if (seq2 x2465.name (ByteArray.mk #[73]))=true then
  some (Ctl.ret (false))
  else
  (if (mget s2458.2 x2465.name false)=true then
  some (Ctl.ret (false))
  else
  ((X9 (lenZ x2465.ctors.length) 1 4).bind fun r2760=>
  (if (!r2760)=true then
  some (Ctl.ret (false))
  else
  ((forL (fun k2891 x2892 (s2885:(List (ByteArray×Bool)))=>
  ((Z2c n p0 x2892).bind fun r2947=>
  (if (!r2947)=true then
  some (Ctl.ret (Ctl.ret (false)))
  else
  (if (mget s2885 x2892.name false)=true then
  some (Ctl.ret (Ctl.ret (false)))
  else
  some (Ctl.go (mset s2885 x2892.name true)))))) 0 x2465.ctors s2458.1).bind fun (o2884:Ctl _ ((List (ByteArray×Bool))))=>match o2884 with
  | .ret r=>some r
  | .go _=>none
  | .brk s2895=>
  some (Ctl.go (s2895,mset s2458.2 x2465.name true)))))))))))) 0 p0 ([],[])).bind fun (o2457:Ctl _ ((List (ByteArray×Bool))×(List (ByteArray×Bool))))=>match o2457 with
  | .ret r=>some r
  | .go _=>none
  | .brk s2468=>
  some (true)))
def Q2v (p0:(List Q4))(p1:Q2):Option (Bool):=
  (if (Q7x [ieq p1.data (-1),ieq p1.index 0])=true then
  some (true)
  else
  ((X9 p1.data 0 (wsub .i64 (lenZ p0.length) 1)).bind fun r9=>
  (if r9=true then
  ((X9 p1.index 0 3).bind fun r11=>
  some (r11))
  else
  some (false))))
def Q73 (p0:Z0)(q0:Q4t):Option (Bool):=
  ((Q2v q0.w p0.arg).bind fun r7=>
  (if (!r7)=true then
  some (true)
  else
  ((Q2v q0.w p0.res).bind fun r10=>
  some ((!r10)))))
def Q6p (p0:Int):Option (Bool):=
  ((X9 p0 0 5).bind fun r1=>
  some (r1))
def Q4d (p0:(List Z0))(p1:(Z0→Option Bool)):Option (Int):=
  ((forL (fun k68 x69 (s62:Unit)=>
  ((p1 x69).bind fun r76=>
  (if r76=true then
  some (Ctl.ret ((k68:Int)))
  else
  some (Ctl.go ())))) 0 p0 ()).bind fun (o61:Ctl _ (Unit))=>match o61 with
  | .ret r=>some r
  | .go _=>none
  | .brk s72=>
  some ((-1)))
def Q1d (p0:(List Z0))(p1:(Z0→Option Bool)):Option (Bool):=
  ((Q4d p0 p1).bind fun r1=>
  some (ile 0 r1))
def Q58 (p0:Q4t):Option (Bool):=
  (if (ilt 4 (lenZ p0.funs.length))=true then
  some (false)
  else
  ((Q1d p0.funs (fun a0=>Q73 a0 p0)).bind fun r20=>
  (if r20=true then
  some (false)
  else
  ((forL (fun k651 x652 (s645:(List Bool))=>
  ((Q6p x652.var).bind fun r763=>
  (if (!r763)=true then
  some (Ctl.ret (false))
  else
  ((aget 6 s645 x652.var).bind fun x766=>
  (if x766=true then
  some (Ctl.ret (false))
  else
  ((Q2v p0.w x652.typ).bind fun r769=>
  (if (!r769)=true then
  some (Ctl.ret (false))
  else
  ((aset 6 s645 x652.var true).bind fun x771=>
  some (Ctl.go x771))))))))) 0 p0.vars [false,false,false,false,false,false]).bind fun (o644:Ctl _ ((List Bool)))=>match o644 with
  | .ret r=>some r
  | .go _=>none
  | .brk s655=>
  some (true)))))
def Q4z (p0:(List Z6))(p1:(Z6→Option Bool)):Option (Int):=
  ((forL (fun k68 x69 (s62:Unit)=>
  ((p1 x69).bind fun r76=>
  (if r76=true then
  some (Ctl.ret ((k68:Int)))
  else
  some (Ctl.go ())))) 0 p0 ()).bind fun (o61:Ctl _ (Unit))=>match o61 with
  | .ret r=>some r
  | .go _=>none
  | .brk s72=>
  some ((-1)))
def Q1o (p0:(List Z6))(p1:(Z6→Option Bool)):Option (Bool):=
  ((Q4z p0 p1).bind fun r1=>
  some (ile 0 r1))
def Q39 (n:Nat)(p0:(List Q4))(p1:Q2):Option (Bool):=
  ((Q3q n p0).bind fun r7=>
  (if r7=true then
  ((Q2v p0 p1).bind fun r9=>
  some (r9))
  else
  some (false)))
def Q50 (p0:Q0)(p1:Bool)(p2:Bool)(p3:Bool)(p4:Int):Option (Bool):=
  (if p1=true then
  (if p2=true then
  (if p3=true then
  some (ieq (lenZ p0.kids.length) p4)
  else
  (if (ieq p0.var 0)=true then
  some (ieq (lenZ p0.kids.length) p4)
  else
  some (false)))
  else
  (if (ieq p0.n 0)=true then
  (if (ieq p0.m 0)=true then
  (if p3=true then
  some (ieq (lenZ p0.kids.length) p4)
  else
  (if (ieq p0.var 0)=true then
  some (ieq (lenZ p0.kids.length) p4)
  else
  some (false)))
  else
  some (false))
  else
  some (false)))
  else
  (if (ieq p0.ctor 0)=true then
  (if p2=true then
  (if p3=true then
  some (ieq (lenZ p0.kids.length) p4)
  else
  (if (ieq p0.var 0)=true then
  some (ieq (lenZ p0.kids.length) p4)
  else
  some (false)))
  else
  (if (ieq p0.n 0)=true then
  (if (ieq p0.m 0)=true then
  (if p3=true then
  some (ieq (lenZ p0.kids.length) p4)
  else
  (if (ieq p0.var 0)=true then
  some (ieq (lenZ p0.kids.length) p4)
  else
  some (false)))
  else
  some (false))
  else
  some (false)))
  else
  some (false)))
def Q04 (p0:(List Q4))(p1:Q2)(p2:Int):Option ((List Q2)):=
  ((idx p0 p1.data).bind fun x1=>
  ((idx x1.ctors p2).bind fun x2=>
  (((if (ieq x2.index 0)=true then
  some (Ctl.brk p1.index)
  else
  some (Ctl.brk x2.index))).bind fun (o5:Ctl _ (Int))=>match o5 with
  | .ret r=>some r
  | .go _=>none
  | .brk s4=>
  ((forL (fun k118 x119 (s112:(List Q2))=>
  (((if (ieq x119.index (-1))=true then
  some (Ctl.brk s4)
  else
  some (Ctl.brk x119.index))).bind fun (o132:Ctl _ (Int))=>match o132 with
  | .ret r=>some r
  | .go _=>none
  | .brk s131=>
  ((app s112 [(Q2.mk x119.data s131)]).bind fun x136=>
  some (Ctl.go x136)))) 0 x2.args []).bind fun (o111:Ctl _ ((List Q2)))=>match o111 with
  | .ret r=>some r
  | .go _=>none
  | .brk s122=>
  some (s122)))))
def Q6f (p0:(List Int))(p1:Int):Option (Int):=
  ((forL (fun k48 x49 (s42:Unit)=>
  (if (ieq p1 x49)=true then
  some (Ctl.ret ((k48:Int)))
  else
  some (Ctl.go ()))) 0 p0 ()).bind fun (o41:Ctl _ (Unit))=>match o41 with
  | .ret r=>some r
  | .go _=>none
  | .brk s52=>
  some ((-1)))
def J5 (p0:(List Int))(p1:Int):Option (Bool):=
  ((Q6f p0 p1).bind fun r1=>
  some (ile 0 r1))
def Q1s (p0:(List Q4))(p1:Q2):Option ((List Int)):=
  (((if (!ieq p1.data (-1))=true then
  ((idx p0 p1.data).bind fun x126=>
  ((forL (fun k208 x209 (s202:(List Int))=>
  (((if (ieq p1.index 0)=true then
  ((app s202 [(k208:Int)]).bind fun x240=>
  some (Ctl.brk x240))
  else
  (if (ieq x209.index 0)=true then
  ((app s202 [(k208:Int)]).bind fun x242=>
  some (Ctl.brk x242))
  else
  (if (ieq x209.index p1.index)=true then
  ((app s202 [(k208:Int)]).bind fun x244=>
  some (Ctl.brk x244))
  else
  some (Ctl.brk s202))))).bind fun (o228:Ctl _ ((List Int)))=>match o228 with
  | .ret r=>some r
  | .go _=>none
  | .brk s227=>
  some (Ctl.go s227))) 0 x126.ctors []).bind fun (o201:Ctl _ ((List Int)))=>match o201 with
  | .ret r=>some r
  | .go _=>none
  | .brk s212=>
  some (Ctl.brk s212)))
  else
  some (Ctl.brk []))).bind fun (o122:Ctl _ ((List Int)))=>match o122 with
  | .ret r=>some r
  | .go _=>none
  | .brk s121=>
  some (s121))
def Q85 (p0:(List Q4))(p1:Q2)(p2:Q0):Option ((List Q2)×Bool):=
  (if (ieq p2.op 1)=true then
  ((Q50 p2 false false false 0).bind fun r68=>
  some (([],r68)))
  else
  (if (ieq p2.op 2)=true then
  ((Q50 p2 false false true 0).bind fun r77=>
  (if r77=true then
  ((Q6p p2.var).bind fun r79=>
  some (([],r79)))
  else
  some (([],false))))
  else
  (if (ieq p2.op 3)=true then
  (if (ieq p1.data (-1))=true then
  ((Q50 p2 false true false 0).bind fun r94=>
  (if r94=true then
  (if (ile 0 p2.n)=true then
  (if (ile p2.n p2.m)=true then
  some (([],ile p2.m 9))
  else
  some (([],false)))
  else
  some (([],false)))
  else
  some (([],false))))
  else
  some (([],false)))
  else
  (if (ieq p2.op 4)=true then
  ((Q1s p0 p1).bind fun r108=>
  ((J5 r108 p2.ctor).bind fun r109=>
  (if (!r109)=true then
  some (([],false))
  else
  ((Q04 p0 p1 p2.ctor).bind fun r111=>
  ((Q50 p2 true false false (lenZ r111.length)).bind fun r112=>
  some ((r111,r112)))))))
  else
  (if (ieq p2.op 5)=true then
  ((Q50 p2 false false false 2).bind fun r118=>
  some (([p1,p1],r118)))
  else
  (if (ieq p2.op 6)=true then
  ((Q50 p2 false false true 1).bind fun r127=>
  (if r127=true then
  ((Q6p p2.var).bind fun r129=>
  some (([p1],r129)))
  else
  some (([p1],false))))
  else
  some (([],false))))))))
def Q10 (p0:(List Q5))(p1:(Q5→Option Bool)):Option (Int):=
  ((forL (fun k68 x69 (s62:Unit)=>
  ((p1 x69).bind fun r76=>
  (if r76=true then
  some (Ctl.ret ((k68:Int)))
  else
  some (Ctl.go ())))) 0 p0 ()).bind fun (o61:Ctl _ (Unit))=>match o61 with
  | .ret r=>some r
  | .go _=>none
  | .brk s72=>
  some ((-1)))
def Q1c (p0:(List Q5))(p1:(Q5→Option Bool)):Option (Bool):=
  ((Q10 p0 p1).bind fun r1=>
  some (ile 0 r1))
def Q47 (p0:(List Q5))(p1:Q5):Option (Int):=
  ((forL (fun k48 x49 (s42:Unit)=>
  (if (Q7x [ieq p1.var x49.var,ieq p1.typ.data x49.typ.data,ieq p1.typ.index x49.typ.index])=true then
  some (Ctl.ret ((k48:Int)))
  else
  some (Ctl.go ()))) 0 p0 ()).bind fun (o41:Ctl _ (Unit))=>match o41 with
  | .ret r=>some r
  | .go _=>none
  | .brk s52=>
  some ((-1)))
def Q0g (p0:(List Q5))(p1:Q5):Option (Bool):=
  ((Q47 p0 p1).bind fun r1=>
  some (ile 0 r1))
def Q74 (p0:Q5)(q0:(List Q5)):Option (Bool):=
  ((Q0g q0 p0).bind fun r1=>
  some ((!r1)))
def Q6n (p0:(List Q5))(p1:(List Q5)):Option (Bool):=
  (if (ieq (lenZ p0.length) (lenZ p1.length))=true then
  ((Q1c p0 (fun a0=>Q74 a0 p1)).bind fun r5=>
  some ((!r5)))
  else
  some (false))
def Q1z:Nat→(List Q4)→Q2→Q0→Int→Int→Option ((List Q5)×Bool×Int)
 | 0,_,_,_,_,_=>none
 | n+1,p0,p1,p2,p3,p4=>
  (if (ilt 60 (wadd .i64 p4 1))=true then
  some (([],false,wadd .i64 p4 1))
  else
  (if (ilt 10 p3)=true then
  some (([],false,wadd .i64 p4 1))
  else
  ((Q85 p0 p1 p2).bind fun r11=>
  (if (!r11.2)=true then
  some (([],false,wadd .i64 p4 1))
  else
  (((if (ieq p2.op 2)=true then
  ((app [] [(Q5.mk p2.var p1)]).bind fun x33=>
  some (Ctl.brk [(Q5.mk p2.var p1)]))
  else
  (if (ieq p2.op 6)=true then
  ((app [] [(Q5.mk p2.var p1)]).bind fun x35=>
  some (Ctl.brk [(Q5.mk p2.var p1)]))
  else
  some (Ctl.brk [])))).bind fun (o24:Ctl _ ((List Q5)))=>match o24 with
  | .ret r=>some r
  | .go _=>none
  | .brk s23=>
  ((forL (fun k287 x288 (s281:Int×(List Q5))=>
  ((((idx r11.1 (k287:Int)).bind fun x315=>
  ((Q1z n p0 x315 x288 (wadd .i64 p3 1) s281.1).bind fun r316=>
  (if (!r316.2.1)=true then
  some (Ctl.ret (Ctl.ret (([],false,r316.2.2))))
  else
  (if (ieq p2.op 5)=true then
  (if (ieq (k287:Int) 1)=true then
  ((Q6n s281.2 r316.1).bind fun r328=>
  (if (!r328)=true then
  some (Ctl.ret (Ctl.ret (([],false,r316.2.2))))
  else
  some (Ctl.brk (r316.2.2,s281.2))))
  else
  ((app s281.2 r316.1).bind fun x331=>
  some (Ctl.brk (r316.2.2,x331))))
  else
  ((app s281.2 r316.1).bind fun x332=>
  some (Ctl.brk (r316.2.2,x332)))))))).bind fun (o312:Ctl _ (Int×(List Q5)))=>match o312 with
  | .ret r=>some r
  | .go _=>none
  | .brk s311=>
  some (Ctl.go (s311.1,s311.2)))) 0 p2.kids (wadd .i64 p4 1,s23)).bind fun (o280:Ctl _ (Int×(List Q5)))=>match o280 with
  | .ret r=>some r
  | .go _=>none
  | .brk s291=>
  ((forL (fun k423 x424 (s417:(List Bool))=>
  ((aget 6 s417 x424.var).bind fun x435=>
  (if x435=true then
  some (Ctl.ret (([],false,s291.1)))
  else
  ((aset 6 s417 x424.var true).bind fun x437=>
  some (Ctl.go x437))))) 0 s291.2 [false,false,false,false,false,false]).bind fun (o416:Ctl _ ((List Bool)))=>match o416 with
  | .ret r=>some r
  | .go _=>none
  | .brk s427=>
  some ((s291.2,true,s291.1)))))))))
def Q1y (n:Nat)(p0:(List Q4))(p1:Q2)(p2:Q0):Option ((List Q5)×Bool):=
  ((Q1z n p0 p1 p2 1 0).bind fun r1=>
  some ((r1.1,r1.2.1)))
def Q7j (p0:Q4u)(p1:(List Q5)):Option (Bool):=
  (if (ieq p0.op 0)=true then
  some (Q7x [ieq p0.op 0,ieq p0.var 0,ieq p0.n 0])
  else
  ((X9 p0.op 1 2).bind fun r14=>
  (if r14=true then
  ((X9 p0.n 0 9).bind fun r16=>
  (if r16=true then
  ((Q0g p1 (Q5.mk p0.var (Q2.mk (-1) 0))).bind fun r18=>
  some (r18))
  else
  some (false)))
  else
  some (false))))
def Q5a (n:Nat)(p0:(List Q4))(p1:Q2)(p2:Z6):Option (Bool):=
  ((Q1y n p0 p1 p2.pat).bind fun r1=>
  (if r1.2=true then
  ((Q7j p2.guard r1.1).bind fun r6=>
  some (r6))
  else
  some (false)))
def Q4r (n:Nat)(p0:Z6)(q0:(List Q4))(q1:Q2):Option (Bool):=
  ((Q5a n q0 q1 p0).bind fun r1=>
  some ((!r1)))
def Q2o (n:Nat)(p0:(List Q4))(p1:Q2)(p2:(List Z6)):Option (Bool):=
  ((Q39 n p0 p1).bind fun r9=>
  (if r9=true then
  (if (ile (lenZ p2.length) 8)=true then
  ((Q1o p2 (fun a0=>Q4r n a0 p0 p1)).bind fun r12=>
  some ((!r12)))
  else
  some (false))
  else
  some (false)))
def Z2d (n:Nat)(p0:(List Q4))(p1:(List Z0))(p2:Q2)(p3:Z6):Option (Q4t):=
  ((Q1y n p0 p2 p3.pat).bind fun r1=>
  some ((Q4t.mk p0 p1 r1.1)))
def Q0q (p0:Q5)(q0:Int):Option (Bool):=
  some (ieq p0.var q0)
def Q2b (p0:Q4t)(p1:Int):Option (Q2×Bool):=
  ((Q10 p0.vars (fun a0=>Q0q a0 p1)).bind fun r1=>
  (if (ilt r1 0)=true then
  some (((Q2.mk 0 0),false))
  else
  ((idx p0.vars r1).bind fun x4=>
  some ((x4.typ,true)))))
def Q8t (p0:Q2)(p1:Q2):Option (Bool):=
  (if (ieq p0.data p1.data)=true then
  (if (ieq p1.index 0)=true then
  some (true)
  else
  some (ieq p0.index p1.index))
  else
  some (false))
def Q59 (p0:Q4t)(p1:Q2)(p2:Z1):Option ((List Q2)×Bool):=
  (if (ieq p2.op 1)=true then
  (if (ieq p1.data (-1))=true then
  ((X9 p2.n 0 9).bind fun r106=>
  (if r106=true then
  some (([],ieq p2.ctor 0))
  else
  some (([],false))))
  else
  some (([],false)))
  else
  (if (ieq p2.op 2)=true then
  ((Q2b p0 p2.n).bind fun r111=>
  (if r111.2=true then
  ((Q8t r111.1 p1).bind fun r118=>
  (if r118=true then
  some (([],ieq p2.ctor 0))
  else
  some (([],false))))
  else
  some (([],false))))
  else
  (if (ieq p2.op 3)=true then
  (if (!ieq p2.n 0)=true then
  some (([],false))
  else
  ((Q1s p0.w p1).bind fun r153=>
  ((J5 r153 p2.ctor).bind fun r154=>
  (if (!r154)=true then
  some (([],false))
  else
  ((Q04 p0.w p1 p2.ctor).bind fun r156=>
  some ((r156,true)))))))
  else
  (if (ieq p2.op 4)=true then
  (if (ieq p1.data (-1))=true then
  (if (ieq p2.n 0)=true then
  some (([p1,p1],ieq p2.ctor 0))
  else
  some (([p1,p1],false)))
  else
  some (([p1,p1],false)))
  else
  (if (ieq p2.op 5)=true then
  ((X9 p2.n 0 (wsub .i64 (lenZ p0.funs.length) 1)).bind fun r189=>
  (if (!r189)=true then
  some (([],false))
  else
  (if (!ieq p2.ctor 0)=true then
  some (([],false))
  else
  ((idx p0.funs p2.n).bind fun x193=>
  ((Q8t x193.res p1).bind fun r194=>
  some (([x193.arg],r194)))))))
  else
  some (([],false)))))))
def Q2l:Nat→Q4t→Q2→Z1→Int→Int→Option (Bool×Int)
 | 0,_,_,_,_,_=>none
 | n+1,p0,p1,p2,p3,p4=>
  (if (ilt 60 (wadd .i64 p4 1))=true then
  some ((false,wadd .i64 p4 1))
  else
  (if (ilt 10 p3)=true then
  some ((false,wadd .i64 p4 1))
  else
  ((Q59 p0 p1 p2).bind fun r11=>
  (if (!r11.2)=true then
  some ((false,wadd .i64 p4 1))
  else
  (if (!ieq (lenZ r11.1.length) (lenZ p2.kids.length))=true then
  some ((false,wadd .i64 p4 1))
  else
  ((forL (fun k101 x102 (s95:Int)=>
  ((idx r11.1 (k101:Int)).bind fun x110=>
  ((Q2l n p0 x110 x102 (wadd .i64 p3 1) s95).bind fun r111=>
  (if (!r111.1)=true then
  some (Ctl.ret ((false,r111.2)))
  else
  some (Ctl.go r111.2))))) 0 p2.kids (wadd .i64 p4 1)).bind fun (o94:Ctl _ (Int))=>match o94 with
  | .ret r=>some r
  | .go _=>none
  | .brk s105=>
  some ((true,s105))))))))
def Q2m (n:Nat)(p0:Q4t)(p1:Q2)(p2:Z1):Option (Bool):=
  ((Q2l n p0 p1 p2 1 0).bind fun r1=>
  some (r1.1))
def Q1e (n:Nat)(p0:(List Q4))(p1:(List GFun)):Option (Bool):=
  ((Q43 p1).bind fun r1=>
  ((Q3q n p0).bind fun r35=>
  (if (!r35)=true then
  some (false)
  else
  ((Q58 (Q4t.mk p0 r1 [])).bind fun r38=>
  (if (!r38)=true then
  some (false)
  else
  ((forL (fun k927 x928 (s921:Unit)=>
  ((Q2o n p0 x928.typ.arg x928.clauses).bind fun r1040=>
  (if (!r1040)=true then
  some (Ctl.ret (false))
  else
  (if (!ieq (lenZ x928.bodies.length) (lenZ x928.clauses.length))=true then
  some (Ctl.ret (false))
  else
  ((forL (fun k1084 x1085 (s1078:Unit)=>
  ((idx x928.clauses (k1084:Int)).bind fun x1095=>
  ((Z2d n p0 r1 x928.typ.arg x1095).bind fun r1096=>
  ((Q2m n r1096 x928.typ.res x1085).bind fun r1097=>
  (if (!r1097)=true then
  some (Ctl.ret (Ctl.ret (false)))
  else
  some (Ctl.go ())))))) 0 x928.bodies ()).bind fun (o1077:Ctl _ (Unit))=>match o1077 with
  | .ret r=>some r
  | .go _=>none
  | .brk s1088=>
  some (Ctl.go ())))))) 0 p1 ()).bind fun (o920:Ctl _ (Unit))=>match o920 with
  | .ret r=>some r
  | .go _=>none
  | .brk s931=>
  some (true)))))))
def Q07 (p0:(List Q0))(p1:(Q0→Option Bool)):Option (Int):=
  ((forL (fun k68 x69 (s62:Unit)=>
  ((p1 x69).bind fun r76=>
  (if r76=true then
  some (Ctl.ret ((k68:Int)))
  else
  some (Ctl.go ())))) 0 p0 ()).bind fun (o61:Ctl _ (Unit))=>match o61 with
  | .ret r=>some r
  | .go _=>none
  | .brk s72=>
  some ((-1)))
def X4 (p0:(List Q0))(p1:(Q0→Option Bool)):Option (Bool):=
  ((Q07 p0 p1).bind fun r1=>
  some (ile 0 r1))
def Q38:Nat→(List Q4)→Q2→Q1→Int→Bool→Int→Option (Bool×Int)
 | 0,_,_,_,_,_,_=>none
 | n+1,p0,p1,p2,p3,p4,p5=>
  (if (ilt 60 (wadd .i64 p5 1))=true then
  some ((false,wadd .i64 p5 1))
  else
  (if (ilt 10 p3)=true then
  some ((false,wadd .i64 p5 1))
  else
  (((if p4=true then
  (if (ieq p2.ctor (-2))=true then
  (if (ieq p2.n 0)=true then
  some (Ctl.ret ((ieq (lenZ p2.kids.length) 0,wadd .i64 p5 1)))
  else
  some (Ctl.ret ((false,wadd .i64 p5 1))))
  else
  (if (ieq p1.data (-1))=true then
  (if (ieq p2.ctor (-1))=true then
  ((X9 p2.n 0 9).bind fun r208=>
  (if r208=true then
  some (Ctl.ret ((ieq (lenZ p2.kids.length) 0,wadd .i64 p5 1)))
  else
  some (Ctl.ret ((false,wadd .i64 p5 1)))))
  else
  some (Ctl.ret ((false,wadd .i64 p5 1))))
  else
  (if (!ieq p2.n 0)=true then
  some (Ctl.ret ((false,wadd .i64 p5 1)))
  else
  ((Q1s p0 p1).bind fun r224=>
  ((J5 r224 p2.ctor).bind fun r225=>
  (if (!r225)=true then
  some (Ctl.ret ((false,wadd .i64 p5 1)))
  else
  some (Ctl.brk ())))))))
  else
  (if (ieq p1.data (-1))=true then
  (if (ieq p2.ctor (-1))=true then
  ((X9 p2.n 0 9).bind fun r236=>
  (if r236=true then
  some (Ctl.ret ((ieq (lenZ p2.kids.length) 0,wadd .i64 p5 1)))
  else
  some (Ctl.ret ((false,wadd .i64 p5 1)))))
  else
  some (Ctl.ret ((false,wadd .i64 p5 1))))
  else
  (if (!ieq p2.n 0)=true then
  some (Ctl.ret ((false,wadd .i64 p5 1)))
  else
  ((Q1s p0 p1).bind fun r252=>
  ((J5 r252 p2.ctor).bind fun r253=>
  (if (!r253)=true then
  some (Ctl.ret ((false,wadd .i64 p5 1)))
  else
  some (Ctl.brk ())))))))).bind fun (o133:Ctl _ (Unit))=>match o133 with
  | .ret r=>some r
  | .go _=>none
  | .brk s132=>
  ((Q04 p0 p1 p2.ctor).bind fun r257=>
  (if (!ieq (lenZ r257.length) (lenZ p2.kids.length))=true then
  some ((false,wadd .i64 p5 1))
  else
  ((forL (fun k339 x340 (s333:Int)=>
  ((idx r257 (k339:Int)).bind fun x348=>
  ((Q38 n p0 x348 x340 (wadd .i64 p3 1) p4 s333).bind fun r349=>
  (if (!r349.1)=true then
  some (Ctl.ret ((false,r349.2)))
  else
  some (Ctl.go r349.2))))) 0 p2.kids (wadd .i64 p5 1)).bind fun (o332:Ctl _ (Int))=>match o332 with
  | .ret r=>some r
  | .go _=>none
  | .brk s343=>
  some ((true,s343))))))))
def Q2u (n:Nat)(p0:(List Q4))(p1:Q2)(p2:Q1):Option (Bool):=
  ((Q38 n p0 p1 p2 1 false 0).bind fun r1=>
  some (r1.1))
def Z0g (n:Nat)(p0:(List Q4))(p1:(List GFun))(p2:Int)(p3:Q1)(p4:Int):Option (Bool):=
  ((Q1e n p0 p1).bind fun r19=>
  (if r19=true then
  ((X9 p2 0 (wsub .i64 (lenZ p1.length) 1)).bind fun r21=>
  (if r21=true then
  ((X9 p4 0 300).bind fun r23=>
  (if r23=true then
  ((idx p1 p2).bind fun x25=>
  ((Q2u n p0 x25.typ.arg p3).bind fun r26=>
  some (r26)))
  else
  some (false)))
  else
  some (false)))
  else
  some (false)))
def Q8s (p0:Int):Option (Int):=
  (((if (ile 4294967296 p0)=true then
  some (Ctl.brk (wshr .u64 p0 32,32))
  else
  some (Ctl.brk (p0,0)))).bind fun (o3:Ctl _ (Int×Int))=>match o3 with
  | .ret r=>some r
  | .go _=>none
  | .brk s2=>
  (((if (ile 65536 s2.1)=true then
  some (Ctl.brk (wshr .u64 s2.1 16,wadd .i64 s2.2 16))
  else
  some (Ctl.brk (s2.1,s2.2)))).bind fun (o9:Ctl _ (Int×Int))=>match o9 with
  | .ret r=>some r
  | .go _=>none
  | .brk s8=>
  (((if (ile 256 s8.1)=true then
  some (Ctl.brk (wshr .u64 s8.1 8,wadd .i64 s8.2 8))
  else
  some (Ctl.brk (s8.1,s8.2)))).bind fun (o15:Ctl _ (Int×Int))=>match o15 with
  | .ret r=>some r
  | .go _=>none
  | .brk s14=>
  ((sidx (ByteArray.mk #[0,1,2,2,3,3,3,3,4,4,4,4,4,4,4,4,5,5,5,5,5,5,5,5,5,5,5,5,5,5,5,5,6,6,6,6,6,6,6,6,6,6,6,6,6,6,6,6,6,6,6,6,6,6,6,6,6,6,6,6,6,6,6,6,7,7,7,7,7,7,7,7,7,7,7,7,7,7,7,7,7,7,7,7,7,7,7,7,7,7,7,7,7,7,7,7,7,7,7,7,7,7,7,7,7,7,7,7,7,7,7,7,7,7,7,7,7,7,7,7,7,7,7,7,7,7,7,7,8,8,8,8,8,8,8,8,8,8,8,8,8,8,8,8,8,8,8,8,8,8,8,8,8,8,8,8,8,8,8,8,8,8,8,8,8,8,8,8,8,8,8,8,8,8,8,8,8,8,8,8,8,8,8,8,8,8,8,8,8,8,8,8,8,8,8,8,8,8,8,8,8,8,8,8,8,8,8,8,8,8,8,8,8,8,8,8,8,8,8,8,8,8,8,8,8,8,8,8,8,8,8,8,8,8,8,8,8,8,8,8,8,8,8,8,8,8,8,8,8,8,8,8,8,8,8,8]) (wcv .u8 s14.1)).bind fun x19=>
  some (wadd .i64 s14.2 (wcv .i64 x19))))))
def Q8i (p0:Int):Option (Int):=
  ((Q8s p0).bind fun r1=>
  some (r1))
def J2 (n:Nat)(p0:(List X1))(p1:Int)(p2:Int)(p3:(X1→X1→Option Int)):Option ((List X1)):=
  ((whileL (fun (s544:(List X1)×Int)=>
  (if (ilt s544.2 p2)=true then
  ((whileL (fun (s774:(List X1)×Int)=>
  (if (ilt p1 s774.2)=true then
  ((idx s774.1 s774.2).bind fun x814=>
  ((idx s774.1 (wsub .i64 s774.2 1)).bind fun x815=>
  ((p3 x814 x815).bind fun r816=>
  (if (ilt r816 0)=true then
  ((setI s774.1 s774.2 x815).bind fun x821=>
  ((idx x821 (wsub .i64 s774.2 1)).bind fun x822=>
  ((setI x821 (wsub .i64 s774.2 1) x814).bind fun x823=>
  some (Ctl.go (x823,wsub .i64 s774.2 1)))))
  else
  some (Ctl.brk (s774.1,s774.2))))))
  else
  some (Ctl.brk (s774.1,s774.2)))) n (s544.1,s544.2)).bind fun (o773:Ctl _ ((List X1)×Int))=>match o773 with
  | .ret r=>some r
  | .go _=>none
  | .brk s784=>
  some (Ctl.go (s784.1,wadd .i64 s544.2 1)))
  else
  some (Ctl.brk (s544.1,s544.2)))) n (p0,wadd .i64 p1 1)).bind fun (o543:Ctl _ ((List X1)×Int))=>match o543 with
  | .ret r=>some r
  | .go _=>none
  | .brk s554=>
  some (s554.1))
def Q1n:Nat→(List X1)→Int→Int→Int→(X1→X1→Option Int)→Option ((List X1))
 | 0,_,_,_,_,_=>none
 | n+1,p0,p1,p2,p3,p4=>
  ((whileL (fun (s12:Unit)=>
  (if (ile (wsub .i64 p2 p1) 12)=true then
  ((J2 n p0 p1 p2 p4).bind fun r28=>
  ((chk (decide ((r28).length=(p0).length))).bind fun x29=>
  some (Ctl.ret (r28))))
  else
  (if (ieq p3 0)=true then
  none
  else
  none))) n ()).bind fun (o11:Ctl _ (Unit))=>match o11 with
  | .ret r=>some r
  | .go _=>none
  | .brk s22=>
  some (p0))
def Q16 (n:Nat)(p0:(List X1))(p1:(X1→X1→Option Int)):Option ((List X1)):=
  ((Q8i (wcv .u64 (lenZ p0.length))).bind fun r1=>
  ((Q1n n p0 0 (lenZ p0.length) r1 p1).bind fun r2=>
  ((chk (decide ((r2).length=(p0).length))).bind fun x3=>
  some (r2))))
def Q6s (p0:Int):Option (Bool):=
  some (!ieq p0 p0)
def Q5b (p0:Int)(p1:Int):Option (Int):=
  ((Q6s p0).bind fun r1=>
  ((Q6s p1).bind fun r2=>
  (if r1=true then
  (if r2=true then
  some (0)
  else
  some ((-1)))
  else
  (if r2=true then
  some (1)
  else
  (if (ilt p0 p1)=true then
  some ((-1))
  else
  (if (ilt p1 p0)=true then
  some (1)
  else
  some (0)))))))
def Q24 (p0:X1)(p1:X1):Option (Int):=
  ((Q5b p0.var p1.var).bind fun r1=>
  some (r1))
def Q33:Nat→Q1→Option (Q1)
 | 0,_=>none
 | n+1,p0=>
  ((forL (fun k70 x71 (s64:(List Q1))=>
  ((Q33 n x71).bind fun r78=>
  ((app s64 [r78]).bind fun x79=>
  some (Ctl.go x79)))) 0 p0.kids []).bind fun (o63:Ctl _ ((List Q1)))=>match o63 with
  | .ret r=>some r
  | .go _=>none
  | .brk s74=>
  some ((Q1.mk p0.ctor p0.n s74)))
def Q4q:Nat→Q0→Q1→Option ((List X1)×Bool)
 | 0,_,_=>none
 | n+1,p0,p1=>
  (if (ieq p0.op 1)=true then
  some (([],true))
  else
  (if (ieq p0.op 2)=true then
  some (([(X1.mk p0.var p1)],true))
  else
  (if (ieq p0.op 3)=true then
  ((X9 p1.n p0.n p0.m).bind fun r26=>
  some (([],r26)))
  else
  (if (ieq p0.op 5)=true then
  ((idx p0.kids 0).bind fun x33=>
  ((Q4q n x33 p1).bind fun r34=>
  (if r34.2=true then
  some ((r34.1,true))
  else
  ((idx p0.kids 1).bind fun x36=>
  ((Q4q n x36 p1).bind fun r37=>
  some ((r37.1,r37.2)))))))
  else
  (if (ieq p0.op 6)=true then
  ((idx p0.kids 0).bind fun x41=>
  ((Q4q n x41 p1).bind fun r42=>
  ((app [(X1.mk p0.var p1)] r42.1).bind fun x43=>
  some ((x43,r42.2)))))
  else
  (if (!ieq p0.ctor p1.ctor)=true then
  some (([],false))
  else
  ((forL (fun k146 x147 (s140:(List X1))=>
  ((idx p1.kids (k146:Int)).bind fun x157=>
  ((Q4q n x147 x157).bind fun r158=>
  (if (!r158.2)=true then
  some (Ctl.ret (([],false)))
  else
  ((app s140 r158.1).bind fun x161=>
  some (Ctl.go x161)))))) 0 p0.kids []).bind fun (o139:Ctl _ ((List X1)))=>match o139 with
  | .ret r=>some r
  | .go _=>none
  | .brk s150=>
  some ((s150,true)))))))))
def Q6a (n:Nat)(p0:Q0)(p1:Q1):Option ((List X1)×Bool):=
  ((Q4q n p0 p1).bind fun r1=>
  (if (!r1.2)=true then
  some (([],false))
  else
  ((Q16 n r1.1 (fun a0 a1=>Q24 a0 a1)).bind fun r4=>
  ((chk (decide ((r4).length=(r1.1).length))).bind fun x5=>
  ((forL (fun k77 x78 (s71:(List X1))=>
  ((idx s71 (k77:Int)).bind fun x86=>
  ((Q33 n x86.value).bind fun r87=>
  ((setI s71 (k77:Int) (X1.mk x86.var r87)).bind fun x88=>
  some (Ctl.go x88))))) 0 r4 r4).bind fun (o70:Ctl _ ((List X1)))=>match o70 with
  | .ret r=>some r
  | .go _=>none
  | .brk s81=>
  some ((s81,true)))))))
def Q1x (p0:(List X1))(p1:(X1→Option Bool)):Option (Int):=
  ((forL (fun k68 x69 (s62:Unit)=>
  ((p1 x69).bind fun r76=>
  (if r76=true then
  some (Ctl.ret ((k68:Int)))
  else
  some (Ctl.go ())))) 0 p0 ()).bind fun (o61:Ctl _ (Unit))=>match o61 with
  | .ret r=>some r
  | .go _=>none
  | .brk s72=>
  some ((-1)))
def Q5s (p0:X1)(q0:Q4u):Option (Bool):=
  some (ieq p0.var q0.var)
def Q3s (p0:Q4u)(p1:(List X1)):Option (Bool):=
  (if (ieq p0.op 0)=true then
  some (true)
  else
  ((Q1x p1 (fun a0=>Q5s a0 p0)).bind fun r3=>
  (if (ilt r3 0)=true then
  some (false)
  else
  ((idx p1 r3).bind fun x18=>
  (if (!ieq x18.value.ctor (-1))=true then
  some (false)
  else
  (if (ieq p0.op 1)=true then
  (if (ilt x18.value.n p0.n)=true then
  some (true)
  else
  (if (ieq p0.op 2)=true then
  some (ieq x18.value.n p0.n)
  else
  some (false)))
  else
  (if (ieq p0.op 2)=true then
  some (ieq x18.value.n p0.n)
  else
  some (false))))))))
def Z01 (n:Nat)(p0:(List Z6))(p1:Q1):Option (Int×(List X1)):=
  ((forL (fun k188 x189 (s182:Unit)=>
  ((((Q6a n x189.pat p1).bind fun r210=>
  (if r210.2=true then
  ((Q3s x189.guard r210.1).bind fun r219=>
  (if r219=true then
  some (Ctl.ret (Ctl.ret (((k188:Int),r210.1))))
  else
  some (Ctl.brk ())))
  else
  some (Ctl.brk ())))).bind fun (o207:Ctl _ (Unit))=>match o207 with
  | .ret r=>some r
  | .go _=>none
  | .brk s206=>
  some (Ctl.go ()))) 0 p0 ()).bind fun (o181:Ctl _ (Unit))=>match o181 with
  | .ret r=>some r
  | .go _=>none
  | .brk s192=>
  some (((-1),[])))
def Q2n (n:Nat)(p0:Int)(p1:Q1)(q0:(List GFun)):Option (Int×(List X1)×Int):=
  ((idx q0 p0).bind fun x1=>
  ((Z01 n x1.clauses p1).bind fun r2=>
  some ((r2.1,r2.2,0))))
def Q75 (n:Nat)(p0:(List Q4))(p1:(List GFun))(p2:Int):Option (Q06):=
  some ((Q06.mk p0 p1 p2 0 0 0 p1))
def Q1g (n:Nat)(p0:Q06)(p1:Q1):Option (Q1×Int×Q06):=
  (if (!ieq p0.code 0)=true then
  some (((Q1.mk 0 0 []),p0.code,p0))
  else
  ((Q33 n p1).bind fun r3=>
  some ((r3,0,p0))))
def Q0m (p0:Q06)(p1:Int):Option (Q1×Q06):=
  some (((Q1.mk 0 0 []),(Q06.mk p0.w p0.list p0.fuel p0.count p0.tests p1 p0.choose)))
def Q9q (p0:Int):Option (Q1):=
  some ((Q1.mk (-1) p0 []))
def Q1h (p0:X1)(q0:Z1):Option (Bool):=
  some (ieq p0.var q0.n)
mutual
def Q0a:Nat→Q06→Int→Q1→Int→Option (Q1×Q06)
 | 0,_,_,_,_=>none
 | n+1,p0,p1,p2,p3=>
  (if (ieq p0.fuel 0)=true then
  ((Q0m p0 2).bind fun r8=>
  some ((r8.1,r8.2)))
  else
  (if (ieq p3 50)=true then
  ((Q0m p0 3).bind fun r11=>
  some ((r11.1,r11.2)))
  else
  ((Q2n n p1 p2 p0.choose).bind fun r13=>
  (if (ilt r13.1 0)=true then
  ((Q0m (Q06.mk p0.w p0.list (wsub .i64 p0.fuel 1) (wadd .i64 p0.count 1) (wadd .i64 p0.tests r13.2.2) p0.code p0.choose) 1).bind fun r18=>
  some ((r18.1,r18.2)))
  else
  ((idx p0.list p1).bind fun x20=>
  ((idx x20.bodies r13.1).bind fun x21=>
  ((Y5 n (Q06.mk p0.w p0.list (wsub .i64 p0.fuel 1) (wadd .i64 p0.count 1) (wadd .i64 p0.tests r13.2.2) p0.code p0.choose) x20.typ.res x21 r13.2.1 (wadd .i64 p3 1)).bind fun r22=>
  some ((r22.1,r22.2)))))))))
def Y5:Nat→Q06→Q2→Z1→(List X1)→Int→Option (Q1×Q06)
 | 0,_,_,_,_,_=>none
 | n+1,p0,p1,p2,p3,p4=>
  (if (ieq p2.op 1)=true then
  ((Q9q p2.n).bind fun r9=>
  some ((r9,p0)))
  else
  (if (ieq p2.op 2)=true then
  ((Q1x p3 (fun a0=>Q1h a0 p2)).bind fun r12=>
  ((idx p3 r12).bind fun x13=>
  some ((x13.value,p0))))
  else
  (((if (ieq p2.op 3)=true then
  ((Q04 p0.w p1 p2.ctor).bind fun r25=>
  some (Ctl.brk r25))
  else
  (if (ieq p2.op 4)=true then
  some (Ctl.brk [p1,p1])
  else
  ((idx p0.list p2.n).bind fun x28=>
  some (Ctl.brk [x28.typ.arg]))))).bind fun (o21:Ctl _ ((List Q2)))=>match o21 with
  | .ret r=>some r
  | .go _=>none
  | .brk s20=>
  ((forL (fun k130 x131 (s124:Q06×(List Q1))=>
  ((idx s20 (k130:Int)).bind fun x141=>
  ((Y5 n s124.1 x141 x131 p3 p4).bind fun r142=>
  (if (!ieq r142.2.code 0)=true then
  some (Ctl.ret (((Q1.mk 0 0 []),r142.2)))
  else
  ((app s124.2 [r142.1]).bind fun x145=>
  some (Ctl.go (r142.2,x145))))))) 0 p2.kids (p0,[])).bind fun (o123:Ctl _ (Q06×(List Q1)))=>match o123 with
  | .ret r=>some r
  | .go _=>none
  | .brk s134=>
  (if (ieq p2.op 4)=true then
  ((idx s134.2 0).bind fun x164=>
  ((idx s134.2 1).bind fun x165=>
  ((Q9q (wrem (wadd .i64 x164.n x165.n) 10)).bind fun r166=>
  some ((r166,s134.1)))))
  else
  (if (ieq p2.op 3)=true then
  ((Q2u n s134.1.w p1 (Q1.mk p2.ctor 0 s134.2)).bind fun r174=>
  (if (!r174)=true then
  ((Q0m s134.1 4).bind fun r176=>
  some ((r176.1,r176.2)))
  else
  some (((Q1.mk p2.ctor 0 s134.2),s134.1))))
  else
  ((idx s134.2 0).bind fun x179=>
  ((Q0a n s134.1 p2.n x179 p4).bind fun r180=>
  some ((r180.1,r180.2))))))))))
end
def Q5r (n:Nat)(p0:(List Q4))(p1:(List GFun))(p2:Int)(p3:Q1)(p4:Int):Option (Q1×Int):=
  ((Z0g n p0 p1 p2 p3 p4).bind fun r4=>
  (if (!r4)=true then
  some (((Q1.mk 0 0 []),5))
  else
  ((Q75 n p0 p1 p4).bind fun r6=>
  ((Q0a n r6 p2 p3 0).bind fun r7=>
  ((Q1g n r7.2 r7.1).bind fun r8=>
  some ((r8.1,r8.2.1)))))))
def Q4m:Nat→(List Q4)→Q2→Q1→Int→Option (Bool)
 | 0,_,_,_,_=>none
 | n+1,p0,p1,p2,p3=>
  (if (ilt p3 1)=true then
  some (false)
  else
  (if (ieq p1.data (-1))=true then
  (if (ieq p2.ctor (-1))=true then
  (if (ile 0 p2.n)=true then
  (if (ile p2.n 9)=true then
  some (ieq (lenZ p2.kids.length) 0)
  else
  some (false))
  else
  some (false))
  else
  some (false))
  else
  (if (!ieq p2.n 0)=true then
  some (false)
  else
  ((Q0f p0 p1).bind fun r46=>
  ((Q3g r46 p2.ctor).bind fun r47=>
  (if (!r47)=true then
  some (false)
  else
  ((V2 p0 p1 p2.ctor).bind fun r49=>
  (if (!ieq (lenZ p2.kids.length) (lenZ r49.length))=true then
  some (false)
  else
  ((forL (fun k129 x130 (s123:Unit)=>
  ((idx p2.kids (k129:Int)).bind fun x138=>
  ((Q4m n p0 x130 x138 (wsub .i64 p3 1)).bind fun r139=>
  (if (!r139)=true then
  some (Ctl.ret (false))
  else
  some (Ctl.go ()))))) 0 r49 ()).bind fun (o122:Ctl _ (Unit))=>match o122 with
  | .ret r=>some r
  | .go _=>none
  | .brk s133=>
  some (true))))))))))
def Q4x:Nat→Q1→Int→Option (Int)
 | 0,_,_=>none
 | n+1,p0,p1=>
  ((forL (fun k94 x95 (s88:Int)=>
  (if (ile s88 p1)=true then
  ((Q4x n x95 (wsub .i64 p1 s88)).bind fun r103=>
  some (Ctl.go (wadd .i64 s88 r103)))
  else
  some (Ctl.brk s88))) 0 p0.kids 1).bind fun (o87:Ctl _ (Int))=>match o87 with
  | .ret r=>some r
  | .go _=>none
  | .brk s98=>
  some (s98))
def Q7u (n:Nat)(p0:(List Q4))(p1:Q2)(p2:Q1):Option (Bool):=
  ((Q4m n p0 p1 p2 10).bind fun r7=>
  (if r7=true then
  ((Q4x n p2 60).bind fun r9=>
  some (ile r9 60))
  else
  some (false)))
def Z25 (p0:Q1)(p1:(List Int)):Option (Q1):=
  ((forL (fun k50 x51 (s44:Q1)=>
  ((idx s44.kids x51).bind fun x56=>
  some (Ctl.go x56))) 0 p1 p0).bind fun (o43:Ctl _ (Q1))=>match o43 with
  | .ret r=>some r
  | .go _=>none
  | .brk s54=>
  some (s54))
def Q2j (p0:Q4u)(p1:(List X1)):Option (Bool):=
  (if (ieq p0.op 0)=true then
  some (true)
  else
  ((forL (fun k188 x189 (s182:Unit)=>
  (((if (!ieq x189.var p0.var)=true then
  some (Ctl.brk ())
  else
  (if (ieq x189.value.ctor (-1))=true then
  (if (ieq p0.op 1)=true then
  (if (ilt x189.value.n p0.n)=true then
  some (Ctl.ret (Ctl.ret (true)))
  else
  (if (ieq p0.op 2)=true then
  some (Ctl.ret (Ctl.ret (ieq x189.value.n p0.n)))
  else
  some (Ctl.ret (Ctl.ret (false)))))
  else
  (if (ieq p0.op 2)=true then
  some (Ctl.ret (Ctl.ret (ieq x189.value.n p0.n)))
  else
  some (Ctl.ret (Ctl.ret (false)))))
  else
  some (Ctl.ret (Ctl.ret (false)))))).bind fun (o206:Ctl _ (Unit))=>match o206 with
  | .ret r=>some r
  | .go _=>none
  | .brk s205=>
  some (Ctl.go ()))) 0 p1 ()).bind fun (o181:Ctl _ (Unit))=>match o181 with
  | .ret r=>some r
  | .go _=>none
  | .brk s192=>
  some (false)))
def Q2q:Nat→(List X1)→Q0→Q1→Option ((List X1)×Bool)
 | 0,_,_,_=>none
 | n+1,p0,p1,p2=>
  (if (ieq p1.op 1)=true then
  some ((p0,true))
  else
  (if (ieq p1.op 2)=true then
  ((app [] p0).bind fun x25=>
  ((app p0 [(X1.mk p1.var p2)]).bind fun x26=>
  some ((x26,true))))
  else
  (if (ieq p1.op 3)=true then
  (if (ile p1.n p2.n)=true then
  some ((p0,ile p2.n p1.m))
  else
  some ((p0,false)))
  else
  (if (ieq p1.op 5)=true then
  ((idx p1.kids 0).bind fun x31=>
  ((Q2q n p0 x31 p2).bind fun r32=>
  (if r32.2=true then
  some ((r32.1,true))
  else
  ((idx p1.kids 1).bind fun x35=>
  ((Q2q n p0 x35 p2).bind fun r36=>
  some ((r36.1,r36.2)))))))
  else
  (if (ieq p1.op 6)=true then
  ((idx p1.kids 0).bind fun x40=>
  ((app [] p0).bind fun x41=>
  ((app p0 [(X1.mk p1.var p2)]).bind fun x42=>
  ((Q2q n x42 x40 p2).bind fun r43=>
  some ((r43.1,r43.2))))))
  else
  (if (!ieq p2.ctor p1.ctor)=true then
  some ((p0,false))
  else
  ((forL (fun k136 x137 (s130:(List X1))=>
  ((idx p2.kids (k136:Int)).bind fun x146=>
  ((Q2q n s130 x137 x146).bind fun r147=>
  (if (!r147.2)=true then
  some (Ctl.ret ((s130,false)))
  else
  some (Ctl.go r147.1))))) 0 p1.kids p0).bind fun (o129:Ctl _ ((List X1)))=>match o129 with
  | .ret r=>some r
  | .go _=>none
  | .brk s140=>
  some ((s140,true)))))))))
def Q3d:Nat→Q1→Option (Q1)
 | 0,_=>none
 | n+1,p0=>
  ((forL (fun k70 x71 (s64:(List Q1))=>
  ((Q3d n x71).bind fun r78=>
  ((app s64 [r78]).bind fun x79=>
  some (Ctl.go x79)))) 0 p0.kids []).bind fun (o63:Ctl _ ((List Q1)))=>match o63 with
  | .ret r=>some r
  | .go _=>none
  | .brk s74=>
  some ((Q1.mk p0.ctor p0.n s74)))
def Q70 (n:Nat)(p0:(List X1)):Option ((List X1)):=
  ((whileL (fun (s608:(List X1)×Int)=>
  (if (ile s608.2 5)=true then
  ((forL (fun k720 x721 (s714:(List X1))=>
  (((if (ieq x721.var s608.2)=true then
  ((Q3d n x721.value).bind fun r734=>
  ((app s714 [(X1.mk s608.2 r734)]).bind fun x735=>
  some (Ctl.brk x735)))
  else
  some (Ctl.brk s714))).bind fun (o730:Ctl _ ((List X1)))=>match o730 with
  | .ret r=>some r
  | .go _=>none
  | .brk s729=>
  some (Ctl.go s729))) 0 p0 s608.1).bind fun (o713:Ctl _ ((List X1)))=>match o713 with
  | .ret r=>some r
  | .go _=>none
  | .brk s724=>
  some (Ctl.go (s724,wadd .i64 s608.2 1)))
  else
  some (Ctl.brk (s608.1,s608.2)))) n ([],0)).bind fun (o607:Ctl _ ((List X1)×Int))=>match o607 with
  | .ret r=>some r
  | .go _=>none
  | .brk s618=>
  some (s618.1))
def Q83 (n:Nat)(p0:(List Z6))(p1:Q1):Option (Int×(List X1)):=
  ((forL (fun k228 x229 (s222:Unit)=>
  ((((Q2q n [] x229.pat p1).bind fun r254=>
  (if r254.2=true then
  ((Q2j x229.guard r254.1).bind fun r265=>
  (if r265=true then
  ((Q70 n r254.1).bind fun r267=>
  some (Ctl.ret (Ctl.ret (((k228:Int),r267)))))
  else
  some (Ctl.brk ())))
  else
  some (Ctl.brk ())))).bind fun (o251:Ctl _ (Unit))=>match o251 with
  | .ret r=>some r
  | .go _=>none
  | .brk s250=>
  some (Ctl.go ()))) 0 p0 ()).bind fun (o221:Ctl _ (Unit))=>match o221 with
  | .ret r=>some r
  | .go _=>none
  | .brk s232=>
  some (((-1),[])))
def Z0a (n:Nat)(p0:(List Q6y))(p1:Q1):Option ((List X1)):=
  ((forL (fun k90 x91 (s84:(List X1))=>
  ((Z25 p1 x91.path).bind fun r100=>
  ((Q3d n r100).bind fun r101=>
  ((app s84 [(X1.mk x91.var r101)]).bind fun x102=>
  some (Ctl.go x102))))) 0 p0 []).bind fun (o83:Ctl _ ((List X1)))=>match o83 with
  | .ret r=>some r
  | .go _=>none
  | .brk s94=>
  some (s94))
def Z0b (p0:(List Q9f))(p1:Q1):Option (Z2u×Bool):=
  ((forL (fun k168 x169 (s162:Unit)=>
  (((if (ieq x169.ctor p1.ctor)=true then
  (if (!ieq p1.ctor (-1))=true then
  some (Ctl.ret (Ctl.ret ((x169.tree,true))))
  else
  (if (ile x169.n p1.n)=true then
  (if (ile p1.n x169.m)=true then
  some (Ctl.ret (Ctl.ret ((x169.tree,true))))
  else
  some (Ctl.brk ()))
  else
  some (Ctl.brk ())))
  else
  some (Ctl.brk ()))).bind fun (o185:Ctl _ (Unit))=>match o185 with
  | .ret r=>some r
  | .go _=>none
  | .brk s184=>
  some (Ctl.go ()))) 0 p0 ()).bind fun (o161:Ctl _ (Unit))=>match o161 with
  | .ret r=>some r
  | .go _=>none
  | .brk s172=>
  some (((Z2u.mk 0 0 [] [] [] []),false)))
def Z3r (n:Nat)(p0:(List Z6))(p1:Z2u)(p2:Q1):Option (Int×(List X1)×Int):=
  ((whileL (fun (s68:Z2u×Int)=>
  (if (!ieq s68.1.op 0)=true then
  (if (ieq s68.1.op 1)=true then
  ((Z0a n s68.1.binds p2).bind fun r94=>
  ((idx p0 s68.1.clause).bind fun x99=>
  ((Q2j x99.guard r94).bind fun r100=>
  (if r100=true then
  some (Ctl.ret ((s68.1.clause,r94,s68.2)))
  else
  ((idx s68.1.else_ 0).bind fun x102=>
  some (Ctl.go (x102,s68.2)))))))
  else
  ((Z25 p2 s68.1.path).bind fun r105=>
  ((Z0b s68.1.branches r105).bind fun r106=>
  (if (!r106.2)=true then
  some (Ctl.ret (((-1),[],wadd .i64 s68.2 1)))
  else
  some (Ctl.go (r106.1,wadd .i64 s68.2 1))))))
  else
  some (Ctl.brk (s68.1,s68.2)))) n (p1,0)).bind fun (o67:Ctl _ (Z2u×Int))=>match o67 with
  | .ret r=>some r
  | .go _=>none
  | .brk s78=>
  some (((-1),[],s78.2)))
def Q4g (n:Nat)(p0:Q05)(p1:Int)(p2:Q1):Option (Q05×Int×(List X1)):=
  (if (ilt 0 (lenZ p0.trees.length))=true then
  ((idx p0.list p1).bind fun x7=>
  ((idx p0.trees p1).bind fun x8=>
  ((Z3r n x7.clauses x8 p2).bind fun r9=>
  some (((Q05.mk p0.w p0.list p0.trees p0.fuel p0.calls (wadd .i64 p0.tests r9.2.2) p0.end_),r9.1,r9.2.1)))))
  else
  ((idx p0.list p1).bind fun x11=>
  ((Q83 n x11.clauses p2).bind fun r12=>
  some ((p0,r12.1,r12.2)))))
def Q68 (p0:(List X1))(p1:Int):Option (Q1):=
  ((forL (fun k48 x49 (s42:Unit)=>
  (if (ieq x49.var p1)=true then
  some (Ctl.ret (x49.value))
  else
  some (Ctl.go ()))) 0 p0 ()).bind fun (o41:Ctl _ (Unit))=>match o41 with
  | .ret r=>some r
  | .go _=>none
  | .brk s52=>
  some ((Q1.mk 0 0 [])))
mutual
def Q2s:Nat→Q05→Int→Q1→Int→Option (Q05×Q1)
 | 0,_,_,_,_=>none
 | n+1,p0,p1,p2,p3=>
  (if (ieq p0.fuel 0)=true then
  some (((Q05.mk p0.w p0.list p0.trees p0.fuel p0.calls p0.tests 2),(Q1.mk 0 0 [])))
  else
  (if (ieq p3 0)=true then
  some (((Q05.mk p0.w p0.list p0.trees p0.fuel p0.calls p0.tests 3),(Q1.mk 0 0 [])))
  else
  ((Q4g n (Q05.mk p0.w p0.list p0.trees (wsub .i64 p0.fuel 1) (wadd .i64 p0.calls 1) p0.tests p0.end_) p1 p2).bind fun r5=>
  (if (ilt r5.2.1 0)=true then
  some (((Q05.mk r5.1.w r5.1.list r5.1.trees r5.1.fuel r5.1.calls r5.1.tests 1),(Q1.mk 0 0 [])))
  else
  ((idx r5.1.list p1).bind fun x8=>
  ((idx x8.bodies r5.2.1).bind fun x9=>
  ((Q0u n r5.1 x8.typ.res x9 r5.2.2 (wsub .i64 p3 1)).bind fun r10=>
  some ((r10.1,r10.2)))))))))
def Q0u:Nat→Q05→Q2→Z1→(List X1)→Int→Option (Q05×Q1)
 | 0,_,_,_,_,_=>none
 | n+1,p0,p1,p2,p3,p4=>
  (if (ieq p2.op 1)=true then
  some ((p0,(Q1.mk (-1) p2.n [])))
  else
  (if (ieq p2.op 2)=true then
  ((Q68 p3 p2.n).bind fun r23=>
  some ((p0,r23)))
  else
  (if (ieq p2.op 4)=true then
  ((Q3i n p0 [(Q2.mk (-1) 0),(Q2.mk (-1) 0)] p2.kids p3 p4).bind fun r26=>
  (if (!ieq r26.1.end_ 0)=true then
  some ((r26.1,(Q1.mk 0 0 [])))
  else
  ((idx r26.2 0).bind fun x29=>
  ((idx r26.2 1).bind fun x30=>
  some ((r26.1,(Q1.mk (-1) (wrem (wadd .i64 x29.n x30.n) 10) [])))))))
  else
  (if (ieq p2.op 5)=true then
  ((idx p0.list p2.n).bind fun x33=>
  ((Q3i n p0 [x33.typ.arg] p2.kids p3 p4).bind fun r34=>
  (if (!ieq r34.1.end_ 0)=true then
  some ((r34.1,(Q1.mk 0 0 [])))
  else
  ((idx r34.2 0).bind fun x37=>
  ((Q2s n r34.1 p2.n x37 p4).bind fun r38=>
  some ((r38.1,r38.2)))))))
  else
  ((V2 p0.w p1 p2.ctor).bind fun r41=>
  ((Q3i n p0 r41 p2.kids p3 p4).bind fun r42=>
  (((if (ieq r42.1.end_ 0)=true then
  ((Q7u n p0.w p1 (Q1.mk p2.ctor 0 r42.2)).bind fun r66=>
  (if (!r66)=true then
  some (Ctl.brk 4)
  else
  some (Ctl.brk r42.1.end_)))
  else
  some (Ctl.brk r42.1.end_))).bind fun (o55:Ctl _ (Int))=>match o55 with
  | .ret r=>some r
  | .go _=>none
  | .brk s54=>
  (if (!ieq s54 0)=true then
  some (((Q05.mk r42.1.w r42.1.list r42.1.trees r42.1.fuel r42.1.calls r42.1.tests s54),(Q1.mk 0 0 [])))
  else
  some (((Q05.mk r42.1.w r42.1.list r42.1.trees r42.1.fuel r42.1.calls r42.1.tests s54),(Q1.mk p2.ctor 0 r42.2)))))))))))
def Q3i:Nat→Q05→(List Q2)→(List Z1)→(List X1)→Int→Option (Q05×(List Q1))
 | 0,_,_,_,_,_=>none
 | n+1,p0,p1,p2,p3,p4=>
  ((forL (fun k116 x117 (s110:Q05×(List Q1))=>
  (if (ieq s110.1.end_ 0)=true then
  ((idx p1 (k116:Int)).bind fun x127=>
  ((Q0u n s110.1 x127 x117 p3 p4).bind fun r128=>
  ((app s110.2 [r128.2]).bind fun x129=>
  some (Ctl.go (r128.1,x129)))))
  else
  some (Ctl.brk (s110.1,s110.2)))) 0 p2 (p0,[])).bind fun (o109:Ctl _ (Q05×(List Q1)))=>match o109 with
  | .ret r=>some r
  | .go _=>none
  | .brk s120=>
  some ((s120.1,s120.2)))
end
def Q56 (n:Nat)(p0:Q05)(p1:Q1):Option (Q1×Int):=
  (if (!ieq p0.end_ 0)=true then
  some (((Q1.mk 0 0 []),p0.end_))
  else
  ((Q3d n p1).bind fun r3=>
  some ((r3,0))))
def Q0p (p0:(List Q1))(p1:(List Q1))(p2:(Q1→Q1→Option Bool)):Option (Bool):=
  (if (!ieq (lenZ p0.length) (lenZ p1.length))=true then
  some (false)
  else
  ((forL (fun k80 x81 (s74:Unit)=>
  ((idx p1 (k80:Int)).bind fun x89=>
  ((p2 x81 x89).bind fun r90=>
  (if (!r90)=true then
  some (Ctl.ret (false))
  else
  some (Ctl.go ()))))) 0 p0 ()).bind fun (o73:Ctl _ (Unit))=>match o73 with
  | .ret r=>some r
  | .go _=>none
  | .brk s84=>
  some (true)))
def V1:Nat→Q1→Q1→Option (Bool)
 | 0,_,_=>none
 | n+1,p0,p1=>
  (if (ieq p0.ctor p1.ctor)=true then
  (if (ieq p0.n p1.n)=true then
  ((Q0p p0.kids p1.kids (fun a0 a1=>V1 n a0 a1)).bind fun r7=>
  some (r7))
  else
  some (false))
  else
  some (false))
def Q3r (n:Nat)(p0:(List Q4))(p1:Q2)(p2:Q1):Option (Bool):=
  ((Q39 n p0 p1).bind fun r7=>
  (if r7=true then
  ((Q2u n p0 p1 p2).bind fun r9=>
  some (r9))
  else
  some (false)))
def Q5q:Nat→Q1→Option (Z1)
 | 0,_=>none
 | n+1,p0=>
  (if (ieq p0.ctor (-1))=true then
  some ((Z1.mk 1 p0.n 0 []))
  else
  ((forL (fun k72 x73 (s66:(List Z1))=>
  ((Q5q n x73).bind fun r80=>
  ((app s66 [r80]).bind fun x81=>
  some (Ctl.go x81)))) 0 p0.kids []).bind fun (o65:Ctl _ ((List Z1)))=>match o65 with
  | .ret r=>some r
  | .go _=>none
  | .brk s76=>
  some ((Z1.mk 3 0 p0.ctor s76))))
def Q76 (n:Nat)(p0:(List Q4))(p1:Q2)(p2:Q1):Option (Z1×Bool):=
  ((Q3r n p0 p1 p2).bind fun r4=>
  (if (!r4)=true then
  some (((Z1.mk 0 0 0 []),false))
  else
  ((Q5q n p2).bind fun r6=>
  some ((r6,true)))))
def Q62 (n:Nat)(p0:(List Q4))(p1:(List Z0))(p2:(List Q5))(p3:Q2)(p4:Z1):Option (Bool):=
  ((Q39 n p0 p3).bind fun r12=>
  (if r12=true then
  ((Q58 (Q4t.mk p0 p1 p2)).bind fun r14=>
  (if r14=true then
  ((Q2m n (Q4t.mk p0 p1 p2) p3 p4).bind fun r16=>
  some (r16))
  else
  some (false)))
  else
  some (false)))
def Q45 (n:Nat)(p0:(List Q4))(p1:(List GFun))(p2:Q2)(p3:Z1)(p4:Int):Option (Q1×Int):=
  ((Q1e n p0 p1).bind fun r74=>
  (if (!r74)=true then
  some (((Q1.mk 0 0 []),5))
  else
  ((Q43 p1).bind fun r77=>
  ((Q62 n p0 r77 [] p2 p3).bind fun r78=>
  (if (!r78)=true then
  some (((Q1.mk 0 0 []),5))
  else
  ((X9 p4 0 300).bind fun r83=>
  (if (!r83)=true then
  some (((Q1.mk 0 0 []),5))
  else
  ((Q75 n p0 p1 p4).bind fun r85=>
  ((Y5 n r85 p2 p3 [] 0).bind fun r86=>
  ((Q1g n r86.2 r86.1).bind fun r87=>
  some ((r87.1,r87.2.1))))))))))))
end Go.Proofs.YtenmmbjgnlflnaaGreat
