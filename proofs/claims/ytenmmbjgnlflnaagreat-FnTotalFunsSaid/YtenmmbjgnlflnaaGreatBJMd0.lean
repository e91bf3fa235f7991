import Derived.Test.YtenmmbjgnlflnaaGreatBJMir
set_option linter.unusedSimpArgs false
set_option linter.unusedVariables false
namespace Go.Proofs.YtenmmbjgnlflnaaGreat
open Go Go.RowKit
def Q1j:Nat→Q0→Option (Int)
 | 0,_=>none
 | n+1,p0=>
  (((if (ieq p0.op 5)=true then
  some (Ctl.brk 0)
  else
  some (Ctl.brk 1))).bind fun (o3:Ctl _ (Int))=>match o3 with
  | .ret r=>some r
  | .go _=>none
  | .brk s2=>
  ((forL (fun k116 x117 (s110:Int)=>
  (((if (ieq p0.op 5)=true then
  ((Q1j n x117).bind fun r131=>
  some (Ctl.brk (imin (wadd .i64 s110 r131) 401)))
  else
  ((Q1j n x117).bind fun r133=>
  some (Ctl.brk (imin (wmul .i64 s110 r133) 401))))).bind fun (o127:Ctl _ (Int))=>match o127 with
  | .ret r=>some r
  | .go _=>none
  | .brk s126=>
  some (Ctl.go s126))) 0 p0.kids s2).bind fun (o109:Ctl _ (Int))=>match o109 with
  | .ret r=>some r
  | .go _=>none
  | .brk s120=>
  some (s120)))
def Y8 (p0:(List Q0)):Option ((List Q0)):=
  ((app [] p0).bind fun x3=>
  some (p0))
def Q3l:Nat→Q0→Option ((List Q0))
 | 0,_=>none
 | n+1,p0=>
  (if (ieq p0.op 5)=true then
  ((idx p0.kids 0).bind fun x10=>
  ((idx p0.kids 1).bind fun x11=>
  ((Q3l n x10).bind fun r12=>
  ((Q3l n x11).bind fun r13=>
  ((app r12 r13).bind fun x14=>
  some (x14))))))
  else
  ((forL (fun k6036 x6037 (s6030:(List Q0))=>
  ((Q3l n x6037).bind fun r6639=>
  ((forL (fun k7139 x7140 (s7133:(List Q0))=>
  ((forL (fun k7223 x7224 (s7217:(List Q0))=>
  ((Y8 x7140.kids).bind fun r7232=>
  ((app r7232 [x7224]).bind fun x7233=>
  ((app s7217 [(Q0.mk x7140.op x7140.ctor x7140.n x7140.m x7140.var x7233)]).bind fun x7234=>
  some (Ctl.go (s7217++[(Q0.mk x7140.op x7140.ctor x7140.n x7140.m x7140.var x7233)])))))) 0 r6639 s7133).bind fun (o7216:Ctl _ ((List Q0)))=>match o7216 with
  | .ret r=>some r
  | .go _=>none
  | .brk s7227=>
  some (Ctl.go s7227))) 0 s6030 []).bind fun (o7132:Ctl _ ((List Q0)))=>match o7132 with
  | .ret r=>some r
  | .go _=>none
  | .brk s7143=>
  some (Ctl.go s7143)))) 0 p0.kids [(Q0.mk p0.op p0.ctor p0.n p0.m p0.var [])]).bind fun (o6029:Ctl _ ((List Q0)))=>match o6029 with
  | .ret r=>some r
  | .go _=>none
  | .brk s6040=>
  some (s6040)))
def Q55 (p0:(List (List Q0))):Option ((List (List Q0))):=
  ((forL (fun k12480 x12481 (s12474:(List (List Q0)))=>
  ((forL (fun k13906 x13907 (s13900:(List (List Q0)))=>
  (if (ile (lenZ s13900.length) 400)=true then
  ((forL (fun k14008 x14009 (s14002:(List (List Q0)))=>
  (if (ile (lenZ s14002.length) 400)=true then
  ((app [] x13907).bind fun x14018=>
  ((app x13907 [x14009]).bind fun x14019=>
  ((app s14002 [x14019]).bind fun x14020=>
  some (Ctl.go (s14002++[x14019])))))
  else
  some (Ctl.brk s14002))) 0 x12481 s13900).bind fun (o14001:Ctl _ ((List (List Q0))))=>match o14001 with
  | .ret r=>some r
  | .go _=>none
  | .brk s14012=>
  some (Ctl.go s14012))
  else
  some (Ctl.brk s13900))) 0 s12474 []).bind fun (o13899:Ctl _ ((List (List Q0))))=>match o13899 with
  | .ret r=>some r
  | .go _=>none
  | .brk s13910=>
  some (Ctl.go s13910))) 0 p0 [[]]).bind fun (o12473:Ctl _ ((List (List Q0))))=>match o12473 with
  | .ret r=>some r
  | .go _=>none
  | .brk s12484=>
  some (s12484))
def Q1q:Nat→Q0→Option ((List Q0))
 | 0,_=>none
 | n+1,p0=>
  (if (ieq p0.op 5)=true then
  ((idx p0.kids 0).bind fun x14=>
  ((idx p0.kids 1).bind fun x15=>
  ((Q1q n x14).bind fun r16=>
  ((Q1q n x15).bind fun r17=>
  ((app r16 r17).bind fun x18=>
  (if (ilt 401 (lenZ x18.length))=true then
  ((Z06 x18 401).bind fun x22=>
  some (x22))
  else
  some (x18)))))))
  else
  ((forL (fun k94 x95 (s88:(List (List Q0)))=>
  ((Q1q n x95).bind fun r102=>
  ((app s88 [r102]).bind fun x103=>
  some (Ctl.go (s88++[r102]))))) 0 p0.kids []).bind fun (o87:Ctl _ ((List (List Q0))))=>match o87 with
  | .ret r=>some r
  | .go _=>none
  | .brk s98=>
  ((Q55 s98).bind fun r105=>
  ((forL (fun k155 x156 (s149:(List Q0))=>
  ((app s149 [(Q0.mk p0.op p0.ctor p0.n p0.m p0.var x156)]).bind fun x161=>
  some (Ctl.go x161))) 0 r105 []).bind fun (o148:Ctl _ ((List Q0)))=>match o148 with
  | .ret r=>some r
  | .go _=>none
  | .brk s159=>
  some (s159)))))
def Q1k  : Option (Q0):=
  some ((Q0.mk 1 0 0 0 0 []))
def Q25 (p0:(List Int))(p1:Q2):Option (Int):=
  (if (ieq p1.data (-1))=true then
  some (1)
  else
  ((X5i 4 4 p0 p1.data p1.index).bind fun x3=>
  some (x3)))
def Q21 (p0:(List Int))(p1:(List Q4))(p2:Q2)(p3:Int):Option (Int):=
  ((Q04 p1 p2 p3).bind fun r49=>
  ((forL (fun k83 x84 (s77:Int)=>
  ((Q25 p0 x84).bind fun r92=>
  (if (ieq r92 0)=true then
  some (Ctl.ret (0))
  else
  some (Ctl.go (imax s77 r92))))) 0 r49 0).bind fun (o76:Ctl _ (Int))=>match o76 with
  | .ret r=>some r
  | .go _=>none
  | .brk s87=>
  some (wadd .i64 s87 1)))
def Q6q (n:Nat)(p0:(List Q4)):Option ((List Int)):=
  ((whileL (fun (s38729:(List Int)×Bool)=>
  (if s38729.2=true then
  ((forL (fun k43904 x43905 (s43898:(List Int)×Bool)=>
  ((whileL (fun (s46048:(List Int)×Bool×Int)=>
  (if (ile s46048.2.2 3)=true then
  ((Q1s p0 (Q2.mk (k43904:Int) s46048.2.2)).bind fun r46272=>
  ((forL (fun k46415 x46416 (s46409:(List Int)×Bool)=>
  ((((Q21 s46409.1 p0 (Q2.mk (k43904:Int) s46048.2.2) x46416).bind fun r46453=>
  (if (ilt 0 r46453)=true then
  ((Q25 s46409.1 (Q2.mk (k43904:Int) s46048.2.2)).bind fun r46472=>
  (if (ieq r46472 0)=true then
  ((X5f 4 4 s46409.1 (k43904:Int) s46048.2.2 r46453).bind fun x46474=>
  some (Ctl.brk (x46474,true)))
  else
  ((Q25 s46409.1 (Q2.mk (k43904:Int) s46048.2.2)).bind fun r46476=>
  (if (ilt r46453 r46476)=true then
  ((X5f 4 4 s46409.1 (k43904:Int) s46048.2.2 r46453).bind fun x46478=>
  some (Ctl.brk (x46478,true)))
  else
  some (Ctl.brk (s46409.1,s46409.2))))))
  else
  some (Ctl.brk (s46409.1,s46409.2))))).bind fun (o46450:Ctl _ ((List Int)×Bool))=>match o46450 with
  | .ret r=>some r
  | .go _=>none
  | .brk s46449=>
  some (Ctl.go (s46449.1,s46449.2)))) 0 r46272 (s46048.1,s46048.2.1)).bind fun (o46408:Ctl _ ((List Int)×Bool))=>match o46408 with
  | .ret r=>some r
  | .go _=>none
  | .brk s46419=>
  some (Ctl.go (s46419.1,s46419.2,wadd .i64 s46048.2.2 1))))
  else
  some (Ctl.brk (s46048.1,s46048.2.1,s46048.2.2)))) n (s43898.1,s43898.2,0)).bind fun (o46047:Ctl _ ((List Int)×Bool×Int))=>match o46047 with
  | .ret r=>some r
  | .go _=>none
  | .brk s46058=>
  some (Ctl.go (s46058.1,s46058.2.1)))) 0 p0 (s38729.1,false)).bind fun (o43897:Ctl _ ((List Int)×Bool))=>match o43897 with
  | .ret r=>some r
  | .go _=>none
  | .brk s43908=>
  some (Ctl.go (s43908.1,s43908.2)))
  else
  some (Ctl.brk (s38729.1,s38729.2)))) n ([0,0,0,0,0,0,0,0,0,0,0,0,0,0,0,0],true)).bind fun (o38728:Ctl _ ((List Int)×Bool))=>match o38728 with
  | .ret r=>some r
  | .go _=>none
  | .brk s38739=>
  some (s38739.1))
def Q61 (n:Nat)(p0:(List Q4)):Option (Q2p):=
  ((Q6q n p0).bind fun r1=>
  some ((Q2p.mk p0 r1)))
def Y2:Nat→Q0→Option (Q0)
 | 0,_=>none
 | n+1,p0=>
  (((if (ieq p0.op 2)=true then
  some (Ctl.ret ((Q0.mk 1 0 0 0 0 [])))
  else
  (if (ieq p0.op 6)=true then
  (if (ilt 0 (lenZ p0.kids.length))=true then
  ((idx p0.kids 0).bind fun x14=>
  ((Y2 n x14).bind fun r15=>
  some (Ctl.ret (r15))))
  else
  some (Ctl.brk ()))
  else
  some (Ctl.brk ())))).bind fun (o8:Ctl _ (Unit))=>match o8 with
  | .ret r=>some r
  | .go _=>none
  | .brk s7=>
  ((forL (fun k86 x87 (s80:(List Q0))=>
  ((Y2 n x87).bind fun r94=>
  ((app s80 [r94]).bind fun x95=>
  some (Ctl.go x95)))) 0 p0.kids []).bind fun (o79:Ctl _ ((List Q0)))=>match o79 with
  | .ret r=>some r
  | .go _=>none
  | .brk s90=>
  some ((Q0.mk p0.op p0.ctor p0.n p0.m p0.var s90))))
def Q65 (n:Nat)(p0:Q0):Option ((List Q0)):=
  ((Y2 n p0).bind fun r1=>
  ((Q1q n r1).bind fun r2=>
  some (r2)))
def Q7d (n:Nat)(p0:(List Z6))(p1:Int):Option ((List Q0)×Bool):=
  ((whileL (fun (s138:(List Q0)×Int)=>
  (if (ilt s138.2 p1)=true then
  ((((idx p0 s138.2).bind fun x166=>
  (if (!ieq x166.guard.op 0)=true then
  some (Ctl.brk s138.1)
  else
  ((Q65 n x166.pat).bind fun r168=>
  (if (ilt 40 (lenZ r168.length))=true then
  some (Ctl.ret (Ctl.ret (([],false))))
  else
  ((app s138.1 r168).bind fun x171=>
  some (Ctl.brk x171))))))).bind fun (o161:Ctl _ ((List Q0)))=>match o161 with
  | .ret r=>some r
  | .go _=>none
  | .brk s160=>
  some (Ctl.go (s160,wadd .i64 s138.2 1)))
  else
  some (Ctl.brk (s138.1,s138.2)))) n ([],0)).bind fun (o137:Ctl _ ((List Q0)×Int))=>match o137 with
  | .ret r=>some r
  | .go _=>none
  | .brk s148=>
  some ((s148.1,true)))
def Q0t:Nat→(List Q4)→(List Int)→Q2→Q0→Option (Bool)
 | 0,_,_,_,_=>none
 | n+1,p0,p1,p2,p3=>
  (if (ieq p3.op 1)=true then
  ((Q1r p1 p2).bind fun r5=>
  some (ilt 0 r5))
  else
  (if (ieq p3.op 3)=true then
  some (true)
  else
  ((V2 p0 p2 p3.ctor).bind fun r9=>
  ((forL (fun k87 x88 (s81:Unit)=>
  ((idx p3.kids (k87:Int)).bind fun x96=>
  ((Q0t n p0 p1 x88 x96).bind fun r97=>
  (if (!r97)=true then
  some (Ctl.ret (false))
  else
  some (Ctl.go ()))))) 0 r9 ()).bind fun (o80:Ctl _ (Unit))=>match o80 with
  | .ret r=>some r
  | .go _=>none
  | .brk s91=>
  some (true)))))
def Q4k (n:Nat)(p0:(List Q4))(p1:(List Int))(p2:Q2)(p3:(List Q0)):Option ((List Q0)):=
  ((forL (fun k100 x101 (s94:(List Q0))=>
  ((((Q0t n p0 p1 p2 x101).bind fun r113=>
  (if r113=true then
  ((app s94 [x101]).bind fun x115=>
  some (Ctl.brk x115))
  else
  some (Ctl.brk s94)))).bind fun (o110:Ctl _ ((List Q0)))=>match o110 with
  | .ret r=>some r
  | .go _=>none
  | .brk s109=>
  some (Ctl.go s109))) 0 p3 []).bind fun (o93:Ctl _ ((List Q0)))=>match o93 with
  | .ret r=>some r
  | .go _=>none
  | .brk s104=>
  some (s104))
def Q54 (p0:Q0)(p1:Q0):Option ((List Q0)):=
  (((if (ilt (wsub .i64 p1.n 1) p0.m)=true then
  some (Ctl.brk (wsub .i64 p1.n 1))
  else
  some (Ctl.brk p0.m))).bind fun (o3:Ctl _ (Int))=>match o3 with
  | .ret r=>some r
  | .go _=>none
  | .brk s2=>
  (((if (ile p0.n s2)=true then
  ((app [] [(Q0.mk 3 0 p0.n s2 0 [])]).bind fun x14=>
  some (Ctl.brk [(Q0.mk 3 0 p0.n s2 0 [])]))
  else
  some (Ctl.brk []))).bind fun (o10:Ctl _ ((List Q0)))=>match o10 with
  | .ret r=>some r
  | .go _=>none
  | .brk s9=>
  (((if (ilt p0.n (wadd .i64 p1.m 1))=true then
  some (Ctl.brk (wadd .i64 p1.m 1))
  else
  some (Ctl.brk p0.n))).bind fun (o17:Ctl _ (Int))=>match o17 with
  | .ret r=>some r
  | .go _=>none
  | .brk s16=>
  (((if (ile s16 p0.m)=true then
  ((app s9 [(Q0.mk 3 0 s16 p0.m 0 [])]).bind fun x28=>
  some (Ctl.brk (s9++[(Q0.mk 3 0 s16 p0.m 0 [])])))
  else
  some (Ctl.brk s9))).bind fun (o24:Ctl _ ((List Q0)))=>match o24 with
  | .ret r=>some r
  | .go _=>none
  | .brk s23=>
  some (s23)))))
def Q0y:Nat→Q0→Q0→Option (Q0×Bool)
 | 0,_,_=>none
 | n+1,p0,p1=>
  (if (ieq p0.op 1)=true then
  some ((p1,true))
  else
  (if (ieq p1.op 1)=true then
  some ((p0,true))
  else
  (if (ieq p0.op 3)=true then
  (((if (ilt p0.n p1.n)=true then
  some (Ctl.brk p1.n)
  else
  some (Ctl.brk p0.n))).bind fun (o22:Ctl _ (Int))=>match o22 with
  | .ret r=>some r
  | .go _=>none
  | .brk s21=>
  (((if (ilt p1.m p0.m)=true then
  some (Ctl.brk p1.m)
  else
  some (Ctl.brk p0.m))).bind fun (o28:Ctl _ (Int))=>match o28 with
  | .ret r=>some r
  | .go _=>none
  | .brk s27=>
  some (((Q0.mk 3 0 s21 s27 0 []),ile s21 s27))))
  else
  (if (!ieq p0.ctor p1.ctor)=true then
  some (((Q0.mk 0 0 0 0 0 []),false))
  else
  ((forL (fun k132 x133 (s126:(List Q0))=>
  ((idx p1.kids (k132:Int)).bind fun x143=>
  ((Q0y n x133 x143).bind fun r144=>
  (if (!r144.2)=true then
  some (Ctl.ret (((Q0.mk 0 0 0 0 0 []),false)))
  else
  ((app s126 [r144.1]).bind fun x147=>
  some (Ctl.go x147)))))) 0 p0.kids []).bind fun (o125:Ctl _ ((List Q0)))=>match o125 with
  | .ret r=>some r
  | .go _=>none
  | .brk s136=>
  some (((Q0.mk 4 p0.ctor 0 0 0 s136),true)))))))
def Q82  : Option (Q0):=
  some ((Q0.mk 1 0 0 0 0 []))
def Q5k (p0:(List Q4))(p1:Q2)(p2:Int):Option (Q0):=
  ((V2 p0 p1 p2).bind fun r1=>
  ((forL (fun k63 x64 (s57:(List Q0))=>
  ((Q82).bind fun r71=>
  ((app s57 [r71]).bind fun x72=>
  some (Ctl.go x72)))) 0 r1 []).bind fun (o56:Ctl _ ((List Q0)))=>match o56 with
  | .ret r=>some r
  | .go _=>none
  | .brk s67=>
  some ((Q0.mk 4 p2 0 0 0 s67))))
mutual
def Y0:Nat→(List Q4)→Q2→Q0→Q0→Option ((List Q0))
 | 0,_,_,_,_=>none
 | n+1,p0,p1,p2,p3=>
  (if (ieq p3.op 1)=true then
  some ([])
  else
  (if (ieq p3.op 3)=true then
  (if (ieq p2.op 1)=true then
  ((Q54 (Q0.mk 3 0 0 9 0 []) p3).bind fun r52=>
  some (r52))
  else
  ((Q54 p2 p3).bind fun r54=>
  some (r54)))
  else
  (if (ieq p2.op 4)=true then
  (if (!ieq p2.ctor p3.ctor)=true then
  some ([p2])
  else
  ((Q8d n p0 p1 p2 p3).bind fun r63=>
  some (r63)))
  else
  ((Q0f p0 p1).bind fun r65=>
  ((forL (fun k155 x156 (s149:(List Q0))=>
  ((Q5k p0 p1 x156).bind fun r165=>
  ((Y0 n p0 p1 r165 p3).bind fun r166=>
  ((app s149 r166).bind fun x167=>
  some (Ctl.go x167))))) 0 r65 []).bind fun (o148:Ctl _ ((List Q0)))=>match o148 with
  | .ret r=>some r
  | .go _=>none
  | .brk s159=>
  some (s159))))))
def Q8d:Nat→(List Q4)→Q2→Q0→Q0→Option ((List Q0))
 | 0,_,_,_,_=>none
 | n+1,p0,p1,p2,p3=>
  ((V2 p0 p1 p2.ctor).bind fun r1=>
  ((forL (fun k1173 x1174 (s1167:(List Q0)×(List Q0))=>
  ((idx p2.kids (k1173:Int)).bind fun x1291=>
  ((idx p3.kids (k1173:Int)).bind fun x1292=>
  ((Y0 n p0 x1174 x1291 x1292).bind fun r1293=>
  ((forL (fun k1383 x1384 (s1377:(List Q0))=>
  ((app [] s1167.2).bind fun x1393=>
  ((app s1167.2 [x1384]).bind fun x1394=>
  ((Z30 p2.kids (wadd .i64 (k1173:Int) 1)).bind fun x1395=>
  ((app x1394 x1395).bind fun x1396=>
  ((app s1377 [(Q0.mk 4 p2.ctor 0 0 0 x1396)]).bind fun x1397=>
  some (Ctl.go (s1377++[(Q0.mk 4 p2.ctor 0 0 0 x1396)])))))))) 0 r1293 s1167.1).bind fun (o1376:Ctl _ ((List Q0)))=>match o1376 with
  | .ret r=>some r
  | .go _=>none
  | .brk s1387=>
  ((Q0y n x1291 x1292).bind fun r1398=>
  (if (!r1398.2)=true then
  some (Ctl.ret (s1387))
  else
  ((app s1167.2 [r1398.1]).bind fun x1401=>
  some (Ctl.go (s1387,x1401)))))))))) 0 r1 ([],[])).bind fun (o1166:Ctl _ ((List Q0)×(List Q0)))=>match o1166 with
  | .ret r=>some r
  | .go _=>none
  | .brk s1177=>
  some (s1177.1)))
end
def Q6z (n:Nat)(p0:(List Q4))(p1:(List Int))(p2:Q2)(p3:(List Q0))(p4:(List Q0)):Option ((List Q0)×Bool):=
  ((forL (fun k1538 x1539 (s1532:(List Q0))=>
  ((forL (fun k1807 x1808 (s1801:(List Q0))=>
  (if (ile (lenZ s1801.length) 400)=true then
  ((Y0 n p0 p2 x1808 x1539).bind fun r1819=>
  ((Q4k n p0 p1 p2 r1819).bind fun r1820=>
  ((app s1801 r1820).bind fun x1821=>
  some (Ctl.go x1821))))
  else
  some (Ctl.brk s1801))) 0 s1532 []).bind fun (o1800:Ctl _ ((List Q0)))=>match o1800 with
  | .ret r=>some r
  | .go _=>none
  | .brk s1811=>
  (if (ilt 400 (lenZ s1811.length))=true then
  some (Ctl.ret (([],false)))
  else
  some (Ctl.go s1811)))) 0 p4 p3).bind fun (o1531:Ctl _ ((List Q0)))=>match o1531 with
  | .ret r=>some r
  | .go _=>none
  | .brk s1542=>
  ((Q4k n p0 p1 p2 s1542).bind fun r1825=>
  some ((r1825,true))))
def Q4l:Nat→Q0→Option (Q0)
 | 0,_=>none
 | n+1,p0=>
  ((forL (fun k70 x71 (s64:(List Q0))=>
  ((Q4l n x71).bind fun r78=>
  ((app s64 [r78]).bind fun x79=>
  some (Ctl.go x79)))) 0 p0.kids []).bind fun (o63:Ctl _ ((List Q0)))=>match o63 with
  | .ret r=>some r
  | .go _=>none
  | .brk s74=>
  some ((Q0.mk p0.op p0.ctor p0.n p0.m p0.var s74)))
def Q5i (n:Nat)(p0:(List Q0)):Option ((List Q0)):=
  ((forL (fun k70 x71 (s64:(List Q0))=>
  ((Q4l n x71).bind fun r78=>
  ((app s64 [r78]).bind fun x79=>
  some (Ctl.go x79)))) 0 p0 []).bind fun (o63:Ctl _ ((List Q0)))=>match o63 with
  | .ret r=>some r
  | .go _=>none
  | .brk s74=>
  some (s74))
def Q7e (n:Nat)(p0:(List Q4))(p1:Q2)(p2:(List Q0))(p3:Bool):Option ((List Q0)×Bool):=
  ((forL (fun k68 x69 (s62:Unit)=>
  ((Q7t n p0 p1 x69).bind fun r76=>
  (if (!r76)=true then
  some (Ctl.ret (([],false)))
  else
  some (Ctl.go ())))) 0 p2 ()).bind fun (o61:Ctl _ (Unit))=>match o61 with
  | .ret r=>some r
  | .go _=>none
  | .brk s72=>
  ((Q5i n p2).bind fun r79=>
  some ((r79,p3))))
def Q9m (n:Nat)(p0:(List Q4))(p1:Q2)(p2:(List Q0))(p3:(List Z6))(p4:Int):Option ((List Q0)×Bool):=
  ((Q7d n p3 p4).bind fun r1=>
  (if (!r1.2)=true then
  some (([],false))
  else
  ((Q19 n p0).bind fun r4=>
  ((Q6z n p0 r4 p1 p2 r1.1).bind fun r5=>
  ((Q7e n p0 p1 r5.1 r5.2).bind fun r6=>
  some ((r6.1,r6.2)))))))
def Q2a (n:Nat)(p0:(List Q4))(p1:Q2)(p2:(List Z6)):Option ((List Q0)×Bool):=
  ((Q0s n p0 p1 p2).bind fun r4=>
  (if (!r4)=true then
  some (([],false))
  else
  ((Q82).bind fun r6=>
  ((Q9m n p0 p1 [r6] p2 (lenZ p2.length)).bind fun r7=>
  some ((r7.1,r7.2))))))
def Q3n (n:Nat)(p0:(List Q4))(p1:Q2)(p2:(List Z6)):Option (Bool×Bool):=
  ((Q2a n p0 p1 p2).bind fun r1=>
  (if r1.2=true then
  some ((ieq (lenZ r1.1.length) 0,r1.2))
  else
  some ((false,r1.2))))
def Q4h (n:Nat)(p0:(List Q4))(p1:(List GFun)):Option (Bool×Bool):=
  ((Q0w n p0 p1).bind fun r4=>
  (if (!r4)=true then
  some ((false,false))
  else
  ((forL (fun k103 x104 (s97:Bool)=>
  ((((Q3n n p0 x104.typ.arg x104.clauses).bind fun r117=>
  (if (!r117.2)=true then
  some (Ctl.ret (Ctl.ret ((false,false))))
  else
  (if s97=true then
  some (Ctl.brk r117.1)
  else
  some (Ctl.brk false))))).bind fun (o114:Ctl _ (Bool))=>match o114 with
  | .ret r=>some r
  | .go _=>none
  | .brk s113=>
  some (Ctl.go s113))) 0 p1 true).bind fun (o96:Ctl _ (Bool))=>match o96 with
  | .ret r=>some r
  | .go _=>none
  | .brk s107=>
  some ((s107,true)))))
def Y3:Nat→Q0→Option (Q0)
 | 0,_=>none
 | n+1,p0=>
  (((if (ieq p0.op 2)=true then
  ((Q1k).bind fun r20=>
  some (Ctl.ret (r20)))
  else
  (if (ieq p0.op 6)=true then
  (if (ilt 0 (lenZ p0.kids.length))=true then
  ((idx p0.kids 0).bind fun x30=>
  ((Y3 n x30).bind fun r31=>
  some (Ctl.ret (r31))))
  else
  some (Ctl.brk ()))
  else
  some (Ctl.brk ())))).bind fun (o16:Ctl _ (Unit))=>match o16 with
  | .ret r=>some r
  | .go _=>none
  | .brk s15=>
  ((forL (fun k102 x103 (s96:(List Q0))=>
  ((Y3 n x103).bind fun r110=>
  ((app s96 [r110]).bind fun x111=>
  some (Ctl.go x111)))) 0 p0.kids []).bind fun (o95:Ctl _ ((List Q0)))=>match o95 with
  | .ret r=>some r
  | .go _=>none
  | .brk s106=>
  some ((Q0.mk p0.op p0.ctor p0.n p0.m p0.var s106))))
def Q86 (n:Nat)(p0:Q0):Option ((List Q0)×Bool):=
  ((Y3 n p0).bind fun r1=>
  ((Q1j n r1).bind fun r5=>
  (if (ilt 40 r5)=true then
  some (([],false))
  else
  ((Q3l n r1).bind fun r7=>
  some ((r7,true))))))
def Q6r (n:Nat)(p0:(List Z6)):Option ((List Q0)×Bool):=
  ((forL (fun k130 x131 (s124:(List Q0))=>
  (((if (!ieq x131.guard.op 0)=true then
  some (Ctl.brk s124)
  else
  ((Q86 n x131.pat).bind fun r148=>
  (if (!r148.2)=true then
  some (Ctl.ret (Ctl.ret (([],false))))
  else
  ((app s124 r148.1).bind fun x151=>
  some (Ctl.brk x151)))))).bind fun (o143:Ctl _ ((List Q0)))=>match o143 with
  | .ret r=>some r
  | .go _=>none
  | .brk s142=>
  some (Ctl.go s142))) 0 p0 []).bind fun (o123:Ctl _ ((List Q0)))=>match o123 with
  | .ret r=>some r
  | .go _=>none
  | .brk s134=>
  some ((s134,true)))
def Q30 (p1:Int):Option ((List Q0)):=
  (if (ilt p1 0)=true then
  none
  else
  (((if (ilt 0 (wsub .i64 p1 (wsub .i64 0 (lenZ 0))))=true then
  ((chk (ieq 0 0)).bind fun x11=>
  ((mkS (wsub .i64 p1 (wsub .i64 0 (lenZ 0))) (Q0.mk 0 0 0 0 0 [])).bind fun x12=>
  some (Ctl.brk ())))
  else
  some (Ctl.brk ()))).bind fun (o7:Ctl _ (Unit))=>match o7 with
  | .ret r=>some r
  | .go _=>none
  | .brk s6=>
  some ([])))
def Q09 (p0:(List (List Q0))):Option ((List Q0)):=
  ((forL (fun k50 x51 (s44:Int)=>
  (if (ilt (wadd .i64 s44 (lenZ x51.length)) 0)=true then
  none
  else
  some (Ctl.go (wadd .i64 s44 (lenZ x51.length))))) 0 p0 0).bind fun (o43:Ctl _ (Int))=>match o43 with
  | .ret r=>some r
  | .go _=>none
  | .brk s54=>
  ((Q30 s54).bind fun r57=>
  ((forL (fun k107 x108 (s101:(List Q0))=>
  ((app s101 x108).bind fun x113=>
  some (Ctl.go x113))) 0 p0 r57).bind fun (o100:Ctl _ ((List Q0)))=>match o100 with
  | .ret r=>some r
  | .go _=>none
  | .brk s111=>
  some (s111))))
def Q3e (n:Nat)(p0:(List Int)):Option ((List Q0)):=
  ((whileL (fun (s88:(List Q0)×Int)=>
  (if (ilt s88.2 (lenZ p0.length))=true then
  ((((idx p0 s88.2).bind fun x109=>
  ((idx p0 (wadd .i64 s88.2 1)).bind fun x110=>
  (if (ile x109 x110)=true then
  ((app s88.1 [(Q0.mk 3 0 x109 x110 0 [])]).bind fun x112=>
  some (Ctl.brk (s88.1++[(Q0.mk 3 0 x109 x110 0 [])])))
  else
  some (Ctl.brk s88.1))))).bind fun (o106:Ctl _ ((List Q0)))=>match o106 with
  | .ret r=>some r
  | .go _=>none
  | .brk s105=>
  some (Ctl.go (s105,wadd .i64 s88.2 2)))
  else
  some (Ctl.brk (s88.1,s88.2)))) n ([],0)).bind fun (o87:Ctl _ ((List Q0)×Int))=>match o87 with
  | .ret r=>some r
  | .go _=>none
  | .brk s98=>
  some (s98.1))
def V7:Nat→Q2p→Q2→Q0→Q0→Option (Q0×Bool)
 | 0,_,_,_,_=>none
 | n+1,p0,p1,p2,p3=>
  (if (ieq p2.op 1)=true then
  some ((p3,true))
  else
  (if (ieq p3.op 1)=true then
  some ((p2,true))
  else
  (if (ieq p2.op 3)=true then
  ((Q3e n [imax p2.n p3.n,imin p2.m p3.m]).bind fun r13=>
  (if (ieq (lenZ r13.length) 0)=true then
  some (((Q0.mk 0 0 0 0 0 []),false))
  else
  ((idx r13 0).bind fun x16=>
  some ((x16,true)))))
  else
  (if (!ieq p2.ctor p3.ctor)=true then
  some (((Q0.mk 0 0 0 0 0 []),false))
  else
  ((Q04 p0.w p1 p2.ctor).bind fun r85=>
  ((forL (fun k131 x132 (s125:(List Q0))=>
  ((idx p2.kids (k131:Int)).bind fun x143=>
  ((idx p3.kids (k131:Int)).bind fun x144=>
  ((V7 n p0 x132 x143 x144).bind fun r145=>
  (if (!r145.2)=true then
  some (Ctl.ret (((Q0.mk 0 0 0 0 0 []),false)))
  else
  ((app s125 [r145.1]).bind fun x148=>
  some (Ctl.go x148))))))) 0 r85 []).bind fun (o124:Ctl _ ((List Q0)))=>match o124 with
  | .ret r=>some r
  | .go _=>none
  | .brk s135=>
  some (((Q0.mk 4 p2.ctor 0 0 0 s135),true))))))))
def Q7i (p0:Q0):Option (Int×Int):=
  (if (ieq p0.op 1)=true then
  some ((0,9))
  else
  some ((p0.n,p0.m)))
def Q42 (p0:Q2p)(p1:Q2)(p2:Int):Option (Q0):=
  ((Q04 p0.w p1 p2).bind fun r39=>
  ((forL (fun k65 x66 (s59:(List Q0))=>
  ((Q1k).bind fun r73=>
  ((app s59 [r73]).bind fun x74=>
  some (Ctl.go x74)))) 0 r39 []).bind fun (o58:Ctl _ ((List Q0)))=>match o58 with
  | .ret r=>some r
  | .go _=>none
  | .brk s69=>
  some ((Q0.mk 4 p2 0 0 0 s69))))
def W2:Nat→Q2p→Q2→Q0→Q0→Option ((List Q0))
 | 0,_,_,_,_=>none
 | n+1,p0,p1,p2,p3=>
  (if (ieq p3.op 1)=true then
  some ([])
  else
  (if (ieq p3.op 3)=true then
  ((Q7i p2).bind fun r119=>
  ((Q3e n [r119.1,imin r119.2 (wsub .i64 p3.n 1),imax r119.1 (wadd .i64 p3.m 1),r119.2]).bind fun r120=>
  some (r120)))
  else
  (if (ieq p2.op 1)=true then
  ((Q1s p0.w p1).bind fun r178=>
  ((forL (fun k216 x217 (s210:(List Q0))=>
  ((Q42 p0 p1 x217).bind fun r226=>
  ((W2 n p0 p1 r226 p3).bind fun r227=>
  ((app s210 r227).bind fun x228=>
  some (Ctl.go x228))))) 0 r178 []).bind fun (o209:Ctl _ ((List Q0)))=>match o209 with
  | .ret r=>some r
  | .go _=>none
  | .brk s220=>
  some (s220)))
  else
  (if (!ieq p2.ctor p3.ctor)=true then
  some ([p2])
  else
  ((Q04 p0.w p1 p2.ctor).bind fun r1105=>
  ((forL (fun k1761 x1762 (s1755:(List Q0)×(List Q0))=>
  ((idx p2.kids (k1761:Int)).bind fun x1921=>
  ((idx p3.kids (k1761:Int)).bind fun x1922=>
  ((W2 n p0 x1762 x1921 x1922).bind fun r1923=>
  ((forL (fun k1957 x1958 (s1951:(List Q0))=>
  ((Z30 p2.kids (wadd .i64 (k1761:Int) 1)).bind fun x1966=>
  ((Q09 [s1755.2,[x1958],x1966]).bind fun r1967=>
  ((app s1951 [(Q0.mk 4 p2.ctor 0 0 0 r1967)]).bind fun x1968=>
  some (Ctl.go x1968))))) 0 r1923 s1755.1).bind fun (o1950:Ctl _ ((List Q0)))=>match o1950 with
  | .ret r=>some r
  | .go _=>none
  | .brk s1961=>
  ((V7 n p0 x1762 x1921 x1922).bind fun r1970=>
  (if (!r1970.2)=true then
  some (Ctl.brk (s1961,s1755.2))
  else
  ((app s1755.2 [r1970.1]).bind fun x1973=>
  some (Ctl.go (s1961,x1973)))))))))) 0 r1105 ([],[])).bind fun (o1754:Ctl _ ((List Q0)×(List Q0)))=>match o1754 with
  | .ret r=>some r
  | .go _=>none
  | .brk s1765=>
  some (s1765.1)))))))
def Q03 (n:Nat)(p0:(List Q0))(p1:(Q0→Option Bool)):Option ((List Q0)):=
  ((Q07 p0 p1).bind fun r1=>
  (if (ieq r1 (-1))=true then
  some (p0)
  else
  ((whileL (fun (s113:(List Q0)×Int×Int)=>
  (if (ilt s113.2.2 (lenZ s113.1.length))=true then
  ((((idx s113.1 s113.2.2).bind fun x136=>
  ((p1 x136).bind fun r137=>
  (if (!r137)=true then
  ((idx s113.1 s113.2.1).bind fun x139=>
  ((setI s113.1 s113.2.1 x136).bind fun x140=>
  some (Ctl.brk (x140,wadd .i64 s113.2.1 1))))
  else
  some (Ctl.brk (s113.1,s113.2.1)))))).bind fun (o133:Ctl _ ((List Q0)×Int))=>match o133 with
  | .ret r=>some r
  | .go _=>none
  | .brk s132=>
  some (Ctl.go (s132.1,s132.2,wadd .i64 s113.2.2 1)))
  else
  some (Ctl.brk (s113.1,s113.2.1,s113.2.2)))) n (p0,r1,wadd .i64 r1 1)).bind fun (o112:Ctl _ ((List Q0)×Int×Int))=>match o112 with
  | .ret r=>some r
  | .go _=>none
  | .brk s123=>
  ((Z06 s123.1 s123.2.1).bind fun x142=>
  some (x142)))))
def Q6o (p0:(List Q4))(p1:Q2)(p2:Q0):Option ((List Q2)):=
  ((Q85 p0 p1 p2).bind fun r1=>
  some (r1.1))
def Y4:Nat→Q2p→Q2→Q0→Option (Bool)
 | 0,_,_,_=>none
 | n+1,p0,p1,p2=>
  (((if (ieq p2.op 1)=true then
  some (Ctl.brk (ieq p2.op 1))
  else
  some (Ctl.brk (ieq p2.op 2)))).bind fun (o29:Ctl _ (Bool))=>match o29 with
  | .ret r=>some r
  | .go _=>none
  | .brk s28=>
  (if s28=true then
  ((Q25 p0.d p1).bind fun r34=>
  some (ieq r34 0))
  else
  (if (ieq p2.op 5)=true then
  ((idx p2.kids 0).bind fun x45=>
  ((Y4 n p0 p1 x45).bind fun r46=>
  (if r46=true then
  ((idx p2.kids 1).bind fun x48=>
  ((Y4 n p0 p1 x48).bind fun r49=>
  some (r49)))
  else
  some (false))))
  else
  ((Q6o p0.w p1 p2).bind fun r100=>
  ((forL (fun k133 x134 (s127:Unit)=>
  ((idx p2.kids (k133:Int)).bind fun x142=>
  ((Y4 n p0 x134 x142).bind fun r143=>
  (if r143=true then
  some (Ctl.ret (true))
  else
  some (Ctl.go ()))))) 0 r100 ()).bind fun (o126:Ctl _ (Unit))=>match o126 with
  | .ret r=>some r
  | .go _=>none
  | .brk s137=>
  some (false))))))
def Q49 (n:Nat)(p0:Q0)(q0:Q2p)(q1:Q2):Option (Bool):=
  ((Y4 n q0 q1 p0).bind fun r1=>
  some (r1))
def Q13 (n:Nat)(p0:Q2p)(p1:Q2)(p2:(List Q0)):Option ((List Q0)):=
  ((Y8 p2).bind fun r1=>
  ((Q03 n r1 (fun a0=>Q49 n a0 p0 p1)).bind fun r2=>
  some (r2)))
def Q32 (n:Nat)(p0:Q2p)(p1:Q2)(p2:(List Q0))(p3:(List Q0)):Option ((List Q0)×Bool):=
  ((Q13 n p0 p1 p2).bind fun r1=>
  ((forL (fun k871 x872 (s865:(List Q0))=>
  ((forL (fun k1028 x1029 (s1022:(List Q0))=>
  ((W2 n p0 p1 x1029 x872).bind fun r1036=>
  ((app s1022 r1036).bind fun x1037=>
  some (Ctl.go x1037)))) 0 s865 []).bind fun (o1021:Ctl _ ((List Q0)))=>match o1021 with
  | .ret r=>some r
  | .go _=>none
  | .brk s1032=>
  ((Q13 n p0 p1 s1032).bind fun r1039=>
  (if (ilt 400 (lenZ r1039.length))=true then
  some (Ctl.ret (([],false)))
  else
  some (Ctl.go r1039))))) 0 p3 r1).bind fun (o864:Ctl _ ((List Q0)))=>match o864 with
  | .ret r=>some r
  | .go _=>none
  | .brk s875=>
  some ((s875,true))))
def Q60 (n:Nat)(p0:(List Q4))(p1:Q2)(p2:Q0):Option (Bool):=
  ((Q1y n p0 p1 p2).bind fun r1=>
  some (r1.2))
def Q48 (n:Nat)(p0:Q0)(q0:Q2p)(q1:Q2):Option (Bool):=
  ((Q60 n q0.w q1 p0).bind fun r1=>
  some ((!r1)))
def Q1i:Nat→Q0→Option (Q0)
 | 0,_=>none
 | n+1,p0=>
  ((forL (fun k70 x71 (s64:(List Q0))=>
  ((Q1i n x71).bind fun r78=>
  ((app s64 [r78]).bind fun x79=>
  some (Ctl.go x79)))) 0 p0.kids []).bind fun (o63:Ctl _ ((List Q0)))=>match o63 with
  | .ret r=>some r
  | .go _=>none
  | .brk s74=>
  some ((Q0.mk p0.op p0.ctor p0.n p0.m p0.var s74)))
def Q4p (n:Nat)(p0:(List Q0)):Option ((List Q0)):=
  ((forL (fun k70 x71 (s64:(List Q0))=>
  ((Q1i n x71).bind fun r78=>
  ((app s64 [r78]).bind fun x79=>
  some (Ctl.go x79)))) 0 p0 []).bind fun (o63:Ctl _ ((List Q0)))=>match o63 with
  | .ret r=>some r
  | .go _=>none
  | .brk s74=>
  some (s74))
def Q3a (n:Nat)(p0:Q2p)(p1:Q2)(p2:(List Q0))(p3:Bool):Option ((List Q0)×Bool):=
  (if (!p3)=true then
  some (([],false))
  else
  ((X4 p2 (fun a0=>Q48 n a0 p0 p1)).bind fun r20=>
  (if r20=true then
  some (([],false))
  else
  ((Q4p n p2).bind fun r22=>
  some ((r22,true))))))
def Q2c (n:Nat)(p0:(List Q4))(p1:Q2)(p2:(List Z6)):Option ((List Q0)×Bool):=
  ((Q2o n p0 p1 p2).bind fun r4=>
  (if (!r4)=true then
  some (([],false))
  else
  ((Q6r n p2).bind fun r6=>
  (if (!r6.2)=true then
  some (([],false))
  else
  ((Q61 n p0).bind fun r9=>
  ((Q1k).bind fun r10=>
  ((Q32 n r9 p1 [r10] r6.1).bind fun r11=>
  ((Q3a n r9 p1 r11.1 r11.2).bind fun r12=>
  some ((r12.1,r12.2))))))))))
def Q3t (n:Nat)(p0:(List Q4))(p1:Q2)(p2:(List Z6)):Option (Bool×Bool):=
  ((Q2c n p0 p1 p2).bind fun r1=>
  (if r1.2=true then
  some ((ieq (lenZ r1.1.length) 0,r1.2))
  else
  some ((false,r1.2))))
def Q4i (n:Nat)(p0:(List Q4))(p1:(List GFun)):Option (Bool×Bool):=
  ((Q1e n p0 p1).bind fun r4=>
  (if (!r4)=true then
  some ((false,false))
  else
  ((forL (fun k103 x104 (s97:Bool)=>
  ((((Q3t n p0 x104.typ.arg x104.clauses).bind fun r117=>
  (if (!r117.2)=true then
  some (Ctl.ret (Ctl.ret ((false,false))))
  else
  (if s97=true then
  some (Ctl.brk r117.1)
  else
  some (Ctl.brk false))))).bind fun (o114:Ctl _ (Bool))=>match o114 with
  | .ret r=>some r
  | .go _=>none
  | .brk s113=>
  some (Ctl.go s113))) 0 p1 true).bind fun (o96:Ctl _ (Bool))=>match o96 with
  | .ret r=>some r
  | .go _=>none
  | .brk s107=>
  some ((s107,true)))))
def Q34 (n:Nat)(p0:(List Int)):Option (Bool):=
  (if (ilt 1048576 (lenZ p0.length))=true then
  some (true)
  else
  ((Q2k n p0).bind fun r3=>
  ((Q4i n r3.1 r3.2.1).bind fun r4=>
  ((Q4h n r3.1 r3.2.1).bind fun r5=>
  ((Q5r n r3.1 r3.2.1 r3.2.2.1 r3.2.2.2.1 r3.2.2.2.2).bind fun r6=>
  (if (r4.1==r5.1)=true then
  (if (r4.2==r5.2)=true then
  (if (!r4.1)=true then
  some (true)
  else
  some (!ieq r6.2 1))
  else
  some (false))
  else
  some (false)))))))
end Go.Proofs.YtenmmbjgnlflnaaGreat
