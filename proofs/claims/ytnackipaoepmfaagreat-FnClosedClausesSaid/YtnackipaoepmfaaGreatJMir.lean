import Derived.Test.YtnackipaoepmfaaGreatJDat
set_option linter.unusedSimpArgs false
set_option linter.unusedVariables false
namespace Go.Proofs.YtnackipaoepmfaaGreat
open Go Go.RowKit
def m_spec_l17Open (p0 : (List Int)) : Option (Gl17Rd) :=
    (((if (ilt 2000 (lenZ p0.length)) = true then
    ((takeI p0 2000).bind fun x8 =>
    some (Ctl.brk x8))
    else
    some (Ctl.brk p0))).bind fun (o4 : Ctl _ ((List Int))) => match o4 with
    | .ret r => some r
    | .go _ => none
    | .brk s3 =>
    some ((Gl17Rd.mk s3 0)))
def m_spec_l17Rd_pick (p0 : Gl17Rd) (p1 : Int) : Option (Int × Gl17Rd) :=
    (if (ilt p1 1) = true then
    some ((0, (Gl17Rd.mk p0.b (wadd .i64 p0.p 1))))
    else
    (if (ieq (lenZ p0.b.length) 0) = true then
    some ((0, (Gl17Rd.mk p0.b (wadd .i64 p0.p 1))))
    else
    (if (ilt (wsub .i64 (wadd .i64 p0.p 1) 1) (lenZ p0.b.length)) = true then
    ((idx p0.b (wsub .i64 (wadd .i64 p0.p 1) 1)).bind fun x15 =>
    ((chk (!ieq p1 0)).bind fun x16 =>
    some ((wrem (wcv .i64 x15) p1, (Gl17Rd.mk p0.b (wadd .i64 p0.p 1))))))
    else
    ((chk (!ieq (lenZ p0.b.length) 0)).bind fun x17 =>
    ((idx p0.b (wrem (wsub .i64 (wadd .i64 p0.p 1) 1) (lenZ p0.b.length))).bind fun x18 =>
    ((idx p0.b (wrem (wadd .i64 (wmul .i64 (wsub .i64 (wadd .i64 p0.p 1) 1) 7) 3) (lenZ p0.b.length))).bind fun x19 =>
    ((chk (!ieq p1 0)).bind fun x20 =>
    some ((wrem (wxor .i64 (wadd .i64 (wadd .i64 (wadd .i64 (wmul .i64 (wcv .i64 x18) 131) (wmul .i64 (wcv .i64 x19) 1117)) (wmul .i64 (wsub .i64 (wadd .i64 p0.p 1) 1) 29)) (wmul .i64 (wquo .i64 (wsub .i64 (wadd .i64 p0.p 1) 1) (lenZ p0.b.length)) 53)) (wquo .i64 (wadd .i64 (wadd .i64 (wadd .i64 (wmul .i64 (wcv .i64 x18) 131) (wmul .i64 (wcv .i64 x19) 1117)) (wmul .i64 (wsub .i64 (wadd .i64 p0.p 1) 1) 29)) (wmul .i64 (wquo .i64 (wsub .i64 (wadd .i64 p0.p 1) 1) (lenZ p0.b.length)) 53)) 64)) p1, (Gl17Rd.mk p0.b (wadd .i64 p0.p 1)))))))))))
def m_spec_l17Rd_num (p0 : Gl17Rd) (p1 : (List Int)) : Option (Int × Gl17Rd) :=
    ((m_spec_l17Rd_pick p0 (lenZ p1.length)).bind fun r1 =>
    ((idx p1 r1.1).bind fun x2 =>
    some ((x2, r1.2))))
def m_spec_l3Kids (p0 : Int) : Option (Int) :=
    (if (ieq p0 5) = true then
    some (2)
    else
    (if (ieq p0 6) = true then
    some (1)
    else
    (if (ieq p0 4) = true then
    some ((-1))
    else
    some (0))))
def m_spec_l1Result (p0 : GCtor) (p1 : Int) : Option (Int) :=
    (if (ieq p0.index 0) = true then
    some (p1)
    else
    some (p0.index))
def m_spec_l1Args (p0 : (List GData)) (p1 : GType) (p2 : Int) : Option ((List GType)) :=
    ((idx p0 p1.data).bind fun x1 =>
    ((idx x1.ctors p2).bind fun x2 =>
    ((forL (fun k152 x153 (s146 : (List GType)) =>
    (((if (ieq x153.index (-1)) = true then
    ((m_spec_l1Result x2 p1.index).bind fun r176 =>
    some (Ctl.brk r176))
    else
    some (Ctl.brk x153.index))).bind fun (o172 : Ctl _ (Int)) => match o172 with
    | .ret r => some r
    | .go _ => none
    | .brk s171 =>
    ((app s146 [(GType.mk x153.data s171)]).bind fun x178 =>
    some (Ctl.go x178)))) 0 x2.args []).bind fun (o145 : Ctl _ ((List GType))) => match o145 with
    | .ret r => some r
    | .go _ => none
    | .brk s156 =>
    some (s156))))
def m_spec_l3Types (n : Nat) (p0 : (List GData)) (p1 : GType) (p2 : GPattern) : Option ((List GType)) :=
    (if (ieq p2.op 4) = true then
    ((m_spec_l1Args p0 p1 p2.ctor).bind fun r5 =>
    some (r5))
    else
    ((whileL (fun (s66 : (List GType) × Int) =>
    ((m_spec_l3Kids p2.op).bind fun r80 =>
    (if (ilt s66.2 r80) = true then
    ((app s66.1 [p1]).bind fun x83 =>
    some (Ctl.go (x83, wadd .i64 s66.2 1)))
    else
    some (Ctl.brk (s66.1, s66.2))))) n ([], 0)).bind fun (o65 : Ctl _ ((List GType) × Int)) => match o65 with
    | .ret r => some r
    | .go _ => none
    | .brk s76 =>
    some (s76.1)))
def m_spec_l3Vars : Nat → (List GVarType) → (List GData) → GType → GPattern → Option ((List GVarType))
  | 0, _, _, _, _ => none
  | n + 1, p0, p1, p2, p3 =>
    (((if (ieq p3.op 2) = true then
    ((app p0 [(GVarType.mk p3.var p2)]).bind fun x20 =>
    some (Ctl.brk x20))
    else
    (if (ieq p3.op 6) = true then
    ((app p0 [(GVarType.mk p3.var p2)]).bind fun x22 =>
    some (Ctl.brk x22))
    else
    some (Ctl.brk p0)))).bind fun (o11 : Ctl _ ((List GVarType))) => match o11 with
    | .ret r => some r
    | .go _ => none
    | .brk s10 =>
    ((m_spec_l3Types n p1 p2 p3).bind fun r23 =>
    ((forL (fun k179 x180 (s173 : (List GVarType)) =>
    (((if (ieq (k179 : Int) 0) = true then
    some (Ctl.brk ())
    else
    (if (!ieq p3.op 5) = true then
    some (Ctl.brk ())
    else
    some (Ctl.ret (Ctl.brk s173))))).bind fun (o190 : Ctl _ (Unit)) => match o190 with
    | .ret r => some r
    | .go _ => none
    | .brk s189 =>
    ((idx p3.kids (k179 : Int)).bind fun x201 =>
    ((m_spec_l3Vars n s173 p1 x180 x201).bind fun r202 =>
    some (Ctl.go r202))))) 0 r23 s10).bind fun (o172 : Ctl _ ((List GVarType))) => match o172 with
    | .ret r => some r
    | .go _ => none
    | .brk s183 =>
    some (s183))))
def m_spec_l3Name : Nat → Gl17Rd → GPattern → Int → Option (GPattern × Int × Gl17Rd)
  | 0, _, _, _ => none
  | n + 1, p0, p1, p2 =>
    (if (ilt 5 p2) = true then
    some ((p1, p2, p0))
    else
    (if (ieq p1.op 5) = true then
    some ((p1, p2, p0))
    else
    (if (ieq p1.op 3) = true then
    some ((p1, p2, p0))
    else
    (((if (ieq p1.op 1) = true then
    ((m_spec_l17Rd_pick p0 2).bind fun r40 =>
    (if (ieq r40.1 0) = true then
    some (Ctl.ret (((GPattern.mk 2 0 0 0 p2 []), wadd .i64 p2 1, r40.2)))
    else
    some (Ctl.brk r40.2)))
    else
    some (Ctl.brk p0))).bind fun (o29 : Ctl _ (Gl17Rd)) => match o29 with
    | .ret r => some r
    | .go _ => none
    | .brk s28 =>
    ((forL (fun k116 x117 (s110 : Gl17Rd × (List GPattern) × Int) =>
    ((m_spec_l3Name n s110.1 x117 s110.2.2).bind fun r124 =>
    ((app s110.2.1 [r124.1]).bind fun x125 =>
    some (Ctl.go (r124.2.2, x125, r124.2.1))))) 0 p1.kids (s28, [], p2)).bind fun (o109 : Ctl _ (Gl17Rd × (List GPattern) × Int)) => match o109 with
    | .ret r => some r
    | .go _ => none
    | .brk s120 =>
    (((if (ile s120.2.2 5) = true then
    ((m_spec_l17Rd_pick s120.1 6).bind fun r150 =>
    (if (ieq r150.1 0) = true then
    some (Ctl.ret (((GPattern.mk 6 0 0 0 s120.2.2 [(GPattern.mk p1.op p1.ctor p1.n p1.m p1.var s120.2.1)]), wadd .i64 s120.2.2 1, r150.2)))
    else
    some (Ctl.brk r150.2)))
    else
    some (Ctl.brk s120.1))).bind fun (o139 : Ctl _ (Gl17Rd)) => match o139 with
    | .ret r => some r
    | .go _ => none
    | .brk s138 =>
    some (((GPattern.mk p1.op p1.ctor p1.n p1.m p1.var s120.2.1), s120.2.2, s138))))))))
def m_spec_l1Fits (p0 : GCtor) (p1 : Int) : Option (Bool) :=
    (if (ieq p0.index 0) = true then
    some (true)
    else
    (if (ieq p1 0) = true then
    some (true)
    else
    some (ieq p0.index p1)))
def m_spec_l1Ctors (p0 : (List GData)) (p1 : GType) : Option ((List Int)) :=
    (if (ieq p1.data (-1)) = true then
    some ([])
    else
    ((idx p0 p1.data).bind fun x138 =>
    ((forL (fun k180 x181 (s174 : (List Int)) =>
    ((((m_spec_l1Fits x181 p1.index).bind fun r193 =>
    (if r193 = true then
    ((app s174 [(k180 : Int)]).bind fun x195 =>
    some (Ctl.brk x195))
    else
    some (Ctl.brk s174)))).bind fun (o190 : Ctl _ ((List Int))) => match o190 with
    | .ret r => some r
    | .go _ => none
    | .brk s189 =>
    some (Ctl.go s189))) 0 x138.ctors []).bind fun (o173 : Ctl _ ((List Int))) => match o173 with
    | .ret r => some r
    | .go _ => none
    | .brk s184 =>
    some (s184))))
def m_spec_l3Draw : Nat → Gl17Rd → (List GData) → GType → Int → Option (GPattern × Gl17Rd)
  | 0, _, _, _, _ => none
  | n + 1, p0, p1, p2, p3 =>
    (if (ilt p3 2) = true then
    some (((GPattern.mk 1 0 0 0 0 []), p0))
    else
    ((m_spec_l17Rd_pick p0 4).bind fun r20 =>
    (if (ieq r20.1 0) = true then
    some (((GPattern.mk 1 0 0 0 0 []), r20.2))
    else
    ((m_spec_l17Rd_pick r20.2 6).bind fun r29 =>
    (if (ieq r29.1 0) = true then
    ((m_spec_l3Draw n r29.2 p1 p2 (wsub .i64 p3 1)).bind fun r31 =>
    ((m_spec_l3Draw n r31.2 p1 p2 (wsub .i64 p3 1)).bind fun r32 =>
    some (((GPattern.mk 5 0 0 0 0 [r31.1, r32.1]), r32.2))))
    else
    (if (ieq p2.data (-1)) = true then
    ((m_spec_l17Rd_pick r29.2 10).bind fun r43 =>
    ((m_spec_l17Rd_pick r43.2 (wsub .i64 10 r43.1)).bind fun r44 =>
    ((m_spec_l17Rd_pick r44.2 2).bind fun r45 =>
    some (((GPattern.mk 3 0 r43.1 (wadd .i64 r43.1 (wmul .i64 r44.1 r45.1)) 0 []), r45.2)))))
    else
    ((m_spec_l1Ctors p1 p2).bind fun r49 =>
    (if (ieq (lenZ r49.length) 0) = true then
    some (((GPattern.mk 1 0 0 0 0 []), r29.2))
    else
    ((m_spec_l17Rd_pick r29.2 (lenZ r49.length)).bind fun r52 =>
    ((idx r49 r52.1).bind fun x53 =>
    ((m_spec_l1Args p1 p2 x53).bind fun r54 =>
    ((forL (fun k126 x127 (s120 : Gl17Rd × (List GPattern)) =>
    ((m_spec_l3Draw n s120.1 p1 x127 (wsub .i64 p3 1)).bind fun r134 =>
    ((app s120.2 [r134.1]).bind fun x135 =>
    some (Ctl.go (r134.2, x135))))) 0 r54 (r52.2, [])).bind fun (o119 : Ctl _ (Gl17Rd × (List GPattern))) => match o119 with
    | .ret r => some r
    | .go _ => none
    | .brk s130 =>
    some (((GPattern.mk 4 x53 0 0 0 s130.2), s130.1))))))))))))))
def m_spec_l1Has (p0 : (List Int)) (p1 : Int) : Option (Bool) :=
    ((forL (fun k48 x49 (s42 : Unit) =>
    (if (ieq x49 p1) = true then
    some (Ctl.ret (true))
    else
    some (Ctl.go ()))) 0 p0 ()).bind fun (o41 : Ctl _ (Unit)) => match o41 with
    | .ret r => some r
    | .go _ => none
    | .brk s52 =>
    some (false))
def m_spec_l3Own (p0 : (List GData)) (p1 : GType) (p2 : GPattern) : Option (Bool) :=
    (((if (ieq p2.op 2) = true then
    some (Ctl.brk true)
    else
    some (Ctl.brk (ieq p2.op 6)))).bind fun (o3 : Ctl _ (Bool)) => match o3 with
    | .ret r => some r
    | .go _ => none
    | .brk s2 =>
    (((if s2 = true then
    (if (ilt p2.var 0) = true then
    some (Ctl.ret (false))
    else
    (if (ilt 5 p2.var) = true then
    some (Ctl.ret (false))
    else
    some (Ctl.brk ())))
    else
    (if (!ieq p2.var 0) = true then
    some (Ctl.ret (false))
    else
    some (Ctl.brk ())))).bind fun (o19 : Ctl _ (Unit)) => match o19 with
    | .ret r => some r
    | .go _ => none
    | .brk s18 =>
    (((if (!ieq p2.op 3) = true then
    (if (!ieq p2.n 0) = true then
    some (Ctl.ret (false))
    else
    (if (!ieq p2.m 0) = true then
    some (Ctl.ret (false))
    else
    (if (!ieq p2.op 4) = true then
    (if (!ieq p2.ctor 0) = true then
    some (Ctl.ret (false))
    else
    some (Ctl.brk ()))
    else
    some (Ctl.brk ()))))
    else
    (if (!ieq p2.op 4) = true then
    (if (!ieq p2.ctor 0) = true then
    some (Ctl.ret (false))
    else
    some (Ctl.brk ()))
    else
    some (Ctl.brk ())))).bind fun (o53 : Ctl _ (Unit)) => match o53 with
    | .ret r => some r
    | .go _ => none
    | .brk s52 =>
    (((if (ieq p2.op 1) = true then
    some (Ctl.brk (ieq p2.op 1))
    else
    (if (ieq p2.op 2) = true then
    some (Ctl.brk (ieq p2.op 2))
    else
    (if (ieq p2.op 5) = true then
    some (Ctl.brk (ieq p2.op 5))
    else
    some (Ctl.brk (ieq p2.op 6)))))).bind fun (o102 : Ctl _ (Bool)) => match o102 with
    | .ret r => some r
    | .go _ => none
    | .brk s101 =>
    (if s101 = true then
    some (true)
    else
    (if (ieq p2.op 3) = true then
    (if (ieq p1.data (-1)) = true then
    (if (ile 0 p2.n) = true then
    (if (ile p2.n p2.m) = true then
    some (ile p2.m 9)
    else
    some (false))
    else
    some (false))
    else
    some (false))
    else
    (if (ieq p2.op 4) = true then
    ((m_spec_l1Ctors p0 p1).bind fun r117 =>
    ((m_spec_l1Has r117 p2.ctor).bind fun r118 =>
    some (r118)))
    else
    some (false))))))))
def m_spec_l3Shape : Nat → (List GData) → GType → GPattern → Int → Option (Bool)
  | 0, _, _, _, _ => none
  | n + 1, p0, p1, p2, p3 =>
    (if (ilt p3 1) = true then
    some (false)
    else
    ((m_spec_l3Own p0 p1 p2).bind fun r20 =>
    (if (!r20) = true then
    some (false)
    else
    ((m_spec_l3Types n p0 p1 p2).bind fun r22 =>
    (if (!ieq (lenZ p2.kids.length) (lenZ r22.length)) = true then
    some (false)
    else
    ((forL (fun k102 x103 (s96 : Unit) =>
    ((idx p2.kids (k102 : Int)).bind fun x111 =>
    ((m_spec_l3Shape n p0 x103 x111 (wsub .i64 p3 1)).bind fun r112 =>
    (if (!r112) = true then
    some (Ctl.ret (false))
    else
    some (Ctl.go ()))))) 0 r22 ()).bind fun (o95 : Ctl _ (Unit)) => match o95 with
    | .ret r => some r
    | .go _ => none
    | .brk s106 =>
    some (true)))))))
def m_spec_l3Count : Nat → GPattern → Int → Option (Int)
  | 0, _, _ => none
  | n + 1, p0, p1 =>
    ((forL (fun k94 x95 (s88 : Int) =>
    (if (ile s88 p1) = true then
    ((m_spec_l3Count n x95 (wsub .i64 p1 s88)).bind fun r103 =>
    some (Ctl.go (wadd .i64 s88 r103)))
    else
    some (Ctl.brk s88))) 0 p0.kids 1).bind fun (o87 : Ctl _ (Int)) => match o87 with
    | .ret r => some r
    | .go _ => none
    | .brk s98 =>
    some (s98))
def m_spec_l3Find (p0 : (List GVarType)) (p1 : Int) : Option (Int) :=
    ((forL (fun k48 x49 (s42 : Unit) =>
    (if (ieq x49.var p1) = true then
    some (Ctl.ret ((k48 : Int)))
    else
    some (Ctl.go ()))) 0 p0 ()).bind fun (o41 : Ctl _ (Unit)) => match o41 with
    | .ret r => some r
    | .go _ => none
    | .brk s52 =>
    some ((-1)))
def m_spec_l3Alike (p0 : (List GVarType)) (p1 : (List GVarType)) : Option (Bool) :=
    ((forL (fun k138 x139 (s132 : Unit) =>
    ((m_spec_l3Find p1 x139.var).bind fun r153 =>
    (if (ilt r153 0) = true then
    some (Ctl.ret (false))
    else
    ((idx p1 r153).bind fun x160 =>
    (if (!eqAll [ieq x160.typ.data x139.typ.data, ieq x160.typ.index x139.typ.index]) = true then
    some (Ctl.ret (false))
    else
    some (Ctl.go ())))))) 0 p0 ()).bind fun (o131 : Ctl _ (Unit)) => match o131 with
    | .ret r => some r
    | .go _ => none
    | .brk s142 =>
    some (ieq (lenZ p0.length) (lenZ p1.length)))
def m_spec_l3Linear : Nat → (List GData) → GType → GPattern → Option (Bool)
  | 0, _, _, _ => none
  | n + 1, p0, p1, p2 =>
    ((m_spec_l3Types n p0 p1 p2).bind fun r1 =>
    ((forL (fun k79 x80 (s73 : Unit) =>
    ((idx p2.kids (k79 : Int)).bind fun x88 =>
    ((m_spec_l3Linear n p0 x80 x88).bind fun r89 =>
    (if (!r89) = true then
    some (Ctl.ret (false))
    else
    some (Ctl.go ()))))) 0 r1 ()).bind fun (o72 : Ctl _ (Unit)) => match o72 with
    | .ret r => some r
    | .go _ => none
    | .brk s83 =>
    (if (ieq p2.op 5) = true then
    ((idx p2.kids 0).bind fun x102 =>
    ((idx p2.kids 1).bind fun x103 =>
    ((m_spec_l3Vars n [] p0 p1 x102).bind fun r104 =>
    ((m_spec_l3Vars n [] p0 p1 x103).bind fun r105 =>
    ((m_spec_l3Alike r104 r105).bind fun r106 =>
    some (r106))))))
    else
    ((m_spec_l3Vars n [] p0 p1 p2).bind fun r110 =>
    ((forL (fun k178 x179 (s172 : Unit) =>
    ((m_spec_l3Find r110 x179.var).bind fun r186 =>
    (if (!ieq r186 (k178 : Int)) = true then
    some (Ctl.ret (false))
    else
    some (Ctl.go ())))) 0 r110 ()).bind fun (o171 : Ctl _ (Unit)) => match o171 with
    | .ret r => some r
    | .go _ => none
    | .brk s182 =>
    some (true))))))
def m_spec_l3Is (n : Nat) (p0 : (List GData)) (p1 : GType) (p2 : GPattern) : Option (Bool) :=
    ((m_spec_l3Shape n p0 p1 p2 10).bind fun r12 =>
    (if r12 = true then
    ((m_spec_l3Count n p2 60).bind fun r14 =>
    (if (ile r14 60) = true then
    ((m_spec_l3Linear n p0 p1 p2).bind fun r16 =>
    some (r16))
    else
    some (false)))
    else
    some (false)))
def m_spec_l3Some (n : Nat) (p0 : Gl17Rd) (p1 : (List GData)) (p2 : GType) : Option (GPattern × Gl17Rd) :=
    ((m_spec_l17Rd_num p0 [3, 2, 4, 1]).bind fun r1 =>
    ((m_spec_l3Draw n r1.2 p1 p2 r1.1).bind fun r2 =>
    ((m_spec_l3Name n r2.2 r2.1 0).bind fun r3 =>
    ((m_spec_l3Is n p1 p2 r3.1).bind fun r7 =>
    (if (!r7) = true then
    some (((GPattern.mk 1 0 0 0 0 []), r3.2.2))
    else
    some ((r3.1, r3.2.2)))))))
def m_spec_l4Clause (n : Nat) (p0 : Gl17Rd) (p1 : (List GData)) (p2 : GType) : Option (GClause × Gl17Rd) :=
    ((m_spec_l3Some n p0 p1 p2).bind fun r1 =>
    ((m_spec_l3Vars n [] p1 p2 r1.1).bind fun r2 =>
    ((forL (fun k274 x275 (s268 : Gl17Rd × Int × Int × Int) =>
    (((if (ieq x275.typ.data (-1)) = true then
    ((m_spec_l17Rd_pick s268.1 2).bind fun r314 =>
    (if (ieq r314.1 0) = true then
    ((m_spec_l17Rd_pick r314.2 2).bind fun r316 =>
    ((m_spec_l17Rd_pick r316.2 10).bind fun r317 =>
    some (Ctl.brk (r317.2, wadd .i64 1 r316.1, x275.var, r317.1))))
    else
    some (Ctl.brk (r314.2, s268.2.1, s268.2.2.1, s268.2.2.2))))
    else
    some (Ctl.brk (s268.1, s268.2.1, s268.2.2.1, s268.2.2.2)))).bind fun (o299 : Ctl _ (Gl17Rd × Int × Int × Int)) => match o299 with
    | .ret r => some r
    | .go _ => none
    | .brk s298 =>
    some (Ctl.go (s298.1, s298.2.1, s298.2.2.1, s298.2.2.2)))) 0 r2 (r1.2, 0, 0, 0)).bind fun (o267 : Ctl _ (Gl17Rd × Int × Int × Int)) => match o267 with
    | .ret r => some r
    | .go _ => none
    | .brk s278 =>
    some (((GClause.mk r1.1 (GGuard.mk s278.2.1 s278.2.2.1 s278.2.2.2)), s278.1)))))
def m_spec_l4List (n : Nat) (p0 : Gl17Rd) (p1 : (List GData)) (p2 : GType) : Option ((List GClause) × Gl17Rd) :=
    ((m_spec_l17Rd_num p0 [3, 2, 4, 5, 1, 0]).bind fun r42 =>
    ((whileL (fun (s63 : Gl17Rd × (List GClause) × Int) =>
    (if (ilt 0 s63.2.2) = true then
    ((m_spec_l4Clause n s63.1 p1 p2).bind fun r79 =>
    ((app s63.2.1 [r79.1]).bind fun x80 =>
    some (Ctl.go (r79.2, x80, wsub .i64 s63.2.2 1))))
    else
    some (Ctl.brk (s63.1, s63.2.1, s63.2.2)))) n (r42.2, [], r42.1)).bind fun (o62 : Ctl _ (Gl17Rd × (List GClause) × Int)) => match o62 with
    | .ret r => some r
    | .go _ => none
    | .brk s73 =>
    some ((s73.2.1, s73.1))))
def m_spec_l1Slot (p0 : GType) : Option (Int) :=
    some (wadd .i64 (wmul .i64 p0.data 4) p0.index)
def m_spec_l1Depth (p0 : (List Int)) (p1 : GType) : Option (Int) :=
    (if (ieq p1.data (-1)) = true then
    some (1)
    else
    ((m_spec_l1Slot p1).bind fun r3 =>
    ((idx p0 r3).bind fun x4 =>
    some (x4))))
def m_spec_l1Most (p0 : (List GData)) (p1 : (List Int)) (p2 : GType) (p3 : Int) : Option (Int) :=
    ((m_spec_l1Args p0 p2 p3).bind fun r1 =>
    ((forL (fun k111 x112 (s105 : Int) =>
    ((((m_spec_l1Depth p1 x112).bind fun r125 =>
    (if (ieq r125 0) = true then
    some (Ctl.ret (Ctl.ret (0)))
    else
    (if (ilt s105 r125) = true then
    some (Ctl.brk r125)
    else
    some (Ctl.brk s105))))).bind fun (o122 : Ctl _ (Int)) => match o122 with
    | .ret r => some r
    | .go _ => none
    | .brk s121 =>
    some (Ctl.go s121))) 0 r1 0).bind fun (o104 : Ctl _ (Int)) => match o104 with
    | .ret r => some r
    | .go _ => none
    | .brk s115 =>
    some (wadd .i64 s115 1)))
def m_spec_l2Draw : Nat → Gl17Rd → (List GData) → (List Int) → GType → Int → Option (GValue × Gl17Rd)
  | 0, _, _, _, _, _ => none
  | n + 1, p0, p1, p2, p3, p4 =>
    (if (ieq p3.data (-1)) = true then
    ((m_spec_l17Rd_pick p0 10).bind fun r5 =>
    some (((GValue.mk (-1) r5.1 []), r5.2)))
    else
    ((m_spec_l1Ctors p1 p3).bind fun r7 =>
    ((forL (fun k267 x268 (s261 : (List Int)) =>
    ((((m_spec_l1Most p1 p2 p3 x268).bind fun r296 =>
    (if (ilt 0 r296) = true then
    (if (ile r296 p4) = true then
    ((app s261 [x268]).bind fun x310 =>
    some (Ctl.brk x310))
    else
    ((m_spec_l1Depth p2 p3).bind fun r311 =>
    (if (ieq r296 r311) = true then
    ((app s261 [x268]).bind fun x313 =>
    some (Ctl.brk x313))
    else
    some (Ctl.brk s261))))
    else
    some (Ctl.brk s261)))).bind fun (o293 : Ctl _ ((List Int))) => match o293 with
    | .ret r => some r
    | .go _ => none
    | .brk s292 =>
    some (Ctl.go s292))) 0 r7 []).bind fun (o260 : Ctl _ ((List Int))) => match o260 with
    | .ret r => some r
    | .go _ => none
    | .brk s271 =>
    ((m_spec_l17Rd_pick p0 (lenZ s271.length)).bind fun r316 =>
    ((idx s271 r316.1).bind fun x317 =>
    ((m_spec_l1Args p1 p3 x317).bind fun r318 =>
    ((forL (fun k390 x391 (s384 : Gl17Rd × (List GValue)) =>
    ((m_spec_l2Draw n s384.1 p1 p2 x391 (wsub .i64 p4 1)).bind fun r398 =>
    ((app s384.2 [r398.1]).bind fun x399 =>
    some (Ctl.go (r398.2, x399))))) 0 r318 (r316.2, [])).bind fun (o383 : Ctl _ (Gl17Rd × (List GValue))) => match o383 with
    | .ret r => some r
    | .go _ => none
    | .brk s394 =>
    some (((GValue.mk x317 0 s394.2), s394.1)))))))))
def m_spec_l1Table (n : Nat) (p0 : (List GData)) : Option ((List Int)) :=
    ((mkS (wmul .i64 (lenZ p0.length) 4) 0).bind fun x1 =>
    ((whileL (fun (s8509 : (List Int) × Int) =>
    (if (ile s8509.2 (lenZ s8509.1.length)) = true then
    ((whileL (fun (s9929 : (List Int) × Int) =>
    (if (ilt s9929.2 (lenZ s9929.1.length)) = true then
    ((m_spec_l1Ctors p0 (GType.mk (wquo .i64 s9929.2 4) (wrem s9929.2 4))).bind fun r10080 =>
    ((forL (fun k10174 x10175 (s10168 : (List Int)) =>
    ((((m_spec_l1Most p0 s10168 (GType.mk (wquo .i64 s9929.2 4) (wrem s9929.2 4)) x10175).bind fun r10200 =>
    (if (ilt 0 r10200) = true then
    ((idx s10168 s9929.2).bind fun x10211 =>
    (if (ieq x10211 0) = true then
    ((setI s10168 s9929.2 r10200).bind fun x10213 =>
    some (Ctl.brk x10213))
    else
    (if (ilt r10200 x10211) = true then
    ((setI s10168 s9929.2 r10200).bind fun x10215 =>
    some (Ctl.brk x10215))
    else
    some (Ctl.brk s10168))))
    else
    some (Ctl.brk s10168)))).bind fun (o10197 : Ctl _ ((List Int))) => match o10197 with
    | .ret r => some r
    | .go _ => none
    | .brk s10196 =>
    some (Ctl.go s10196))) 0 r10080 s9929.1).bind fun (o10167 : Ctl _ ((List Int))) => match o10167 with
    | .ret r => some r
    | .go _ => none
    | .brk s10178 =>
    some (Ctl.go (s10178, wadd .i64 s9929.2 1))))
    else
    some (Ctl.brk (s9929.1, s9929.2)))) n (s8509.1, 0)).bind fun (o9928 : Ctl _ ((List Int) × Int)) => match o9928 with
    | .ret r => some r
    | .go _ => none
    | .brk s9939 =>
    some (Ctl.go (s9939.1, wadd .i64 s8509.2 1)))
    else
    some (Ctl.brk (s8509.1, s8509.2)))) n (x1, 0)).bind fun (o8508 : Ctl _ ((List Int) × Int)) => match o8508 with
    | .ret r => some r
    | .go _ => none
    | .brk s8519 =>
    some (s8519.1)))
def m_spec_l1Find (p0 : (List ByteArray)) (p1 : ByteArray) : Option (Int) :=
    (if (seq2 p1 (ByteArray.mk #[73])) = true then
    some ((-1))
    else
    ((forL (fun k50 x51 (s44 : Unit) =>
    (if (seq2 x51 p1) = true then
    some (Ctl.ret ((k50 : Int)))
    else
    some (Ctl.go ()))) 0 p0 ()).bind fun (o43 : Ctl _ (Unit)) => match o43 with
    | .ret r => some r
    | .go _ => none
    | .brk s54 =>
    some ((-2))))
def m_spec_l1ParseType (p0 : (List ByteArray)) (p1 : ByteArray) : Option (GType) :=
    (if (seq2 p1 (ByteArray.mk #[])) = true then
    some ((GType.mk (-2) 0))
    else
    ((ssub p1 0 1).bind fun x3 =>
    ((m_spec_l1Find p0 x3).bind fun r4 =>
    ((((ssub p1 1 (p1.size : Int)).bind fun x22 =>
    (if (seq2 x22 (ByteArray.mk #[42])) = true then
    some (Ctl.brk (-1))
    else
    (if (ieq (lenZ p1.size) 2) = true then
    ((sidx p1 1).bind fun x32 =>
    (if (ile 48 x32) = true then
    (if (ile x32 57) = true then
    some (Ctl.brk (wcv .i64 (wsub .u8 x32 48)))
    else
    some (Ctl.brk 0))
    else
    some (Ctl.brk 0)))
    else
    some (Ctl.brk 0))))).bind fun (o19 : Ctl _ (Int)) => match o19 with
    | .ret r => some r
    | .go _ => none
    | .brk s18 =>
    some ((GType.mk r4 s18))))))
def m_spec_l17Cut (n : Nat) (p0 : ByteArray) (p1 : Int) : Option ((List ByteArray)) :=
    ((whileL (fun (s210 : (List ByteArray) × Int × Int) =>
    (if (ile s210.2.2 (lenZ p0.size)) = true then
    (((if (ieq s210.2.2 (lenZ p0.size)) = true then
    ((ssub p0 s210.2.1 s210.2.2).bind fun x253 =>
    ((app s210.1 [x253]).bind fun x254 =>
    some (Ctl.brk (x254, wadd .i64 s210.2.2 1))))
    else
    ((sidx p0 s210.2.2).bind fun x255 =>
    (if (ieq x255 p1) = true then
    ((ssub p0 s210.2.1 s210.2.2).bind fun x257 =>
    ((app s210.1 [x257]).bind fun x258 =>
    some (Ctl.brk (x258, wadd .i64 s210.2.2 1))))
    else
    some (Ctl.brk (s210.1, s210.2.1)))))).bind fun (o240 : Ctl _ ((List ByteArray) × Int)) => match o240 with
    | .ret r => some r
    | .go _ => none
    | .brk s239 =>
    some (Ctl.go (s239.1, s239.2, wadd .i64 s210.2.2 1)))
    else
    some (Ctl.brk (s210.1, s210.2.1, s210.2.2)))) n ([], 0, 0)).bind fun (o209 : Ctl _ ((List ByteArray) × Int × Int)) => match o209 with
    | .ret r => some r
    | .go _ => none
    | .brk s220 =>
    some (s220.1))
def m_spec_l1ParseCtor (n : Nat) (p0 : (List ByteArray)) (p1 : ByteArray) : Option (GCtor) :=
    (((if (ilt 2 (lenZ p1.size)) = true then
    ((sidx p1 (wsub .i64 (lenZ p1.size) 2)).bind fun x25 =>
    (if (ieq x25 58) = true then
    ((sidx p1 (wsub .i64 (lenZ p1.size) 1)).bind fun x27 =>
    ((ssub p1 0 (wsub .i64 (lenZ p1.size) 2)).bind fun x28 =>
    some (Ctl.brk (x28, wsub .i64 (wcv .i64 x27) 48))))
    else
    some (Ctl.brk (p1, 0))))
    else
    some (Ctl.brk (p1, 0)))).bind fun (o14 : Ctl _ (ByteArray × Int)) => match o14 with
    | .ret r => some r
    | .go _ => none
    | .brk s13 =>
    ((m_spec_l17Cut n s13.1 40).bind fun r29 =>
    ((idx r29 0).bind fun x30 =>
    (if (ilt (lenZ r29.length) 2) = true then
    some ((GCtor.mk x30 [] s13.2))
    else
    ((idx r29 1).bind fun x45 =>
    (if (ieq (lenZ x45.size) 0) = true then
    some ((GCtor.mk x30 [] s13.2))
    else
    ((ssub x45 0 (wsub .i64 (lenZ x45.size) 1)).bind fun x47 =>
    ((m_spec_l17Cut n x47 44).bind fun r48 =>
    ((forL (fun k152 x153 (s146 : (List GType)) =>
    (if (ile (k152 : Int) 3) = true then
    ((m_spec_l1ParseType p0 x153).bind fun r162 =>
    ((app s146 [r162]).bind fun x163 =>
    some (Ctl.go x163)))
    else
    some (Ctl.brk s146))) 0 r48 []).bind fun (o145 : Ctl _ ((List GType))) => match o145 with
    | .ret r => some r
    | .go _ => none
    | .brk s156 =>
    some ((GCtor.mk x30 s156 s13.2)))))))))))
def m_spec_l1Twice (n : Nat) (p0 : (List GData)) (p1 : Int) (p2 : Int) : Option (Bool) :=
    ((whileL (fun (s3156 : Int) =>
    (if (ile s3156 p1) = true then
    (((if (ilt s3156 p1) = true then
    ((idx p0 s3156).bind fun x3505 =>
    ((idx p0 p1).bind fun x3506 =>
    (if (seq2 x3505.name x3506.name) = true then
    some (Ctl.ret (Ctl.ret (true)))
    else
    some (Ctl.brk ()))))
    else
    some (Ctl.brk ()))).bind fun (o3494 : Ctl _ (Unit)) => match o3494 with
    | .ret r => some r
    | .go _ => none
    | .brk s3493 =>
    ((idx p0 s3156).bind fun x3637 =>
    ((forL (fun k3750 x3751 (s3744 : Unit) =>
    (((if (ilt s3156 p1) = true then
    some (Ctl.brk ())
    else
    (if (ilt (k3750 : Int) p2) = true then
    some (Ctl.brk ())
    else
    some (Ctl.ret (Ctl.brk ()))))).bind fun (o3761 : Ctl _ (Unit)) => match o3761 with
    | .ret r => some r
    | .go _ => none
    | .brk s3760 =>
    ((((idx p0 p1).bind fun x3791 =>
    (if (ilt p2 (lenZ x3791.ctors.length)) = true then
    ((idx x3791.ctors p2).bind fun x3793 =>
    (if (seq2 x3751.name x3793.name) = true then
    some (Ctl.ret (Ctl.ret (Ctl.ret (true))))
    else
    some (Ctl.brk ())))
    else
    some (Ctl.brk ())))).bind fun (o3781 : Ctl _ (Unit)) => match o3781 with
    | .ret r => some r
    | .go _ => none
    | .brk s3780 =>
    some (Ctl.go ())))) 0 x3637.ctors ()).bind fun (o3743 : Ctl _ (Unit)) => match o3743 with
    | .ret r => some r
    | .go _ => none
    | .brk s3754 =>
    some (Ctl.go (wadd .i64 s3156 1)))))
    else
    some (Ctl.brk s3156))) n 0).bind fun (o3155 : Ctl _ (Int)) => match o3155 with
    | .ret r => some r
    | .go _ => none
    | .brk s3166 =>
    some (false))
def m_spec_l1Big (p0 : Int) : Option (Bool) :=
    (if (ile 65 p0) = true then
    some (ile p0 90)
    else
    some (false))
def m_spec_l1Data (p0 : ByteArray) : Option (Bool) :=
    (if (ieq (lenZ p0.size) 1) = true then
    ((sidx p0 0).bind fun x8 =>
    ((m_spec_l1Big x8).bind fun r9 =>
    (if r9 = true then
    some (!seq2 p0 (ByteArray.mk #[73]))
    else
    some (false))))
    else
    some (false))
def m_spec_l1Arg (p0 : Int) (p1 : GType) : Option (Bool) :=
    (if (ieq p1.data (-1)) = true then
    some (ieq p1.index 0)
    else
    (if (ile 0 p1.data) = true then
    (if (ilt p1.data p0) = true then
    (if (ile (-1) p1.index) = true then
    some (ile p1.index 3)
    else
    some (false))
    else
    some (false))
    else
    some (false)))
def m_spec_NameValid (n : Nat) (p0 : ByteArray) : Option (Bool) :=
    (if (ieq (lenZ p0.size) 0) = true then
    some (false)
    else
    (if (ilt 5 (lenZ p0.size)) = true then
    some (false)
    else
    ((sidx p0 0).bind fun x31 =>
    ((m_spec_l1Big x31).bind fun r32 =>
    (if (!r32) = true then
    some (false)
    else
    ((whileL (fun (s139 : Int) =>
    (if (ilt s139 (lenZ p0.size)) = true then
    ((sidx p0 s139).bind fun x165 =>
    (if (ilt x165 97) = true then
    some (Ctl.ret (false))
    else
    (if (ilt 122 x165) = true then
    some (Ctl.ret (false))
    else
    some (Ctl.go (wadd .i64 s139 1)))))
    else
    some (Ctl.brk s139))) n 1).bind fun (o138 : Ctl _ (Int)) => match o138 with
    | .ret r => some r
    | .go _ => none
    | .brk s149 =>
    some (true)))))))
def m_spec_l1Ctor (n : Nat) (p0 : Int) (p1 : GCtor) : Option (Bool) :=
    ((m_spec_NameValid n p1.name).bind fun r44 =>
    (if (!r44) = true then
    some (false)
    else
    (if (ilt 3 (lenZ p1.args.length)) = true then
    some (false)
    else
    (if (ilt p1.index 0) = true then
    some (false)
    else
    (if (ilt 3 p1.index) = true then
    some (false)
    else
    ((forL (fun k119 x120 (s113 : Unit) =>
    ((m_spec_l1Arg p0 x120).bind fun r127 =>
    (if (!r127) = true then
    some (Ctl.ret (false))
    else
    some (Ctl.go ())))) 0 p1.args ()).bind fun (o112 : Ctl _ (Unit)) => match o112 with
    | .ret r => some r
    | .go _ => none
    | .brk s123 =>
    some (true)))))))
def m_spec_WorldValid (n : Nat) (p0 : (List GData)) : Option (Bool) :=
    (if (ilt 4 (lenZ p0.length)) = true then
    some (false)
    else
    ((forL (fun k1970 x1971 (s1964 : Unit) =>
    ((m_spec_l1Data x1971.name).bind fun r2197 =>
    (if (!r2197) = true then
    some (Ctl.ret (false))
    else
    (if (ieq (lenZ x1971.ctors.length) 0) = true then
    some (Ctl.ret (false))
    else
    (if (ilt 4 (lenZ x1971.ctors.length)) = true then
    some (Ctl.ret (false))
    else
    ((forL (fun k2307 x2308 (s2301 : Unit) =>
    ((m_spec_l1Ctor n (lenZ p0.length) x2308).bind fun r2345 =>
    (if (!r2345) = true then
    some (Ctl.ret (Ctl.ret (false)))
    else
    ((m_spec_l1Twice n p0 (k1970 : Int) (k2307 : Int)).bind fun r2348 =>
    (if r2348 = true then
    some (Ctl.ret (Ctl.ret (false)))
    else
    some (Ctl.go ())))))) 0 x1971.ctors ()).bind fun (o2300 : Ctl _ (Unit)) => match o2300 with
    | .ret r => some r
    | .go _ => none
    | .brk s2311 =>
    some (Ctl.go ()))))))) 0 p0 ()).bind fun (o1963 : Ctl _ (Unit)) => match o1963 with
    | .ret r => some r
    | .go _ => none
    | .brk s1974 =>
    some (true)))
def m_spec_l17Dec : Nat → Int → Option (ByteArray)
  | 0, _ => none
  | n + 1, p0 =>
    (if (ilt p0 (-9223372036854775807)) = true then
    some ((ByteArray.mk #[45, 57, 50, 50, 51, 51, 55, 50, 48, 51, 54, 56, 53, 52, 55, 55, 53, 56, 48, 56]))
    else
    (if (ilt p0 0) = true then
    ((m_spec_l17Dec n (wneg .i64 p0)).bind fun r8 =>
    ((scat (ByteArray.mk #[45]) r8).bind fun x9 =>
    some (x9)))
    else
    ((whileL (fun (s20 : Int × ByteArray) =>
    (if (ilt 9 s20.1) = true then
    ((scat (bstr [wcv .u8 (wadd .i64 48 (wrem s20.1 10))]) s20.2).bind fun x33 =>
    some (Ctl.go (wquo .i64 s20.1 10, x33)))
    else
    some (Ctl.brk (s20.1, s20.2)))) n (p0, (ByteArray.mk #[]))).bind fun (o19 : Ctl _ (Int × ByteArray)) => match o19 with
    | .ret r => some r
    | .go _ => none
    | .brk s30 =>
    ((scat (bstr [wcv .u8 (wadd .i64 48 s30.1)]) s30.2).bind fun x34 =>
    some (x34)))))
def m_spec_l1Index (n : Nat) (p0 : Int) : Option (ByteArray) :=
    (if (ieq p0 0) = true then
    some ((ByteArray.mk #[]))
    else
    (if (ieq p0 (-1)) = true then
    some ((ByteArray.mk #[42]))
    else
    ((m_spec_l17Dec n p0).bind fun r5 =>
    some (r5))))
def m_spec_l1Type (n : Nat) (p0 : (List GData)) (p1 : GType) : Option (ByteArray) :=
    (if (ieq p1.data (-1)) = true then
    some ((ByteArray.mk #[73]))
    else
    ((idx p0 p1.data).bind fun x3 =>
    ((m_spec_l1Index n p1.index).bind fun r4 =>
    ((scat x3.name r4).bind fun x5 =>
    some (x5)))))
def m_spec_l1CtorText (n : Nat) (p0 : (List GData)) (p1 : GCtor) : Option (ByteArray) :=
    ((forL (fun k170 x171 (s164 : ByteArray) =>
    (((if (ieq (k170 : Int) 0) = true then
    ((scat s164 (ByteArray.mk #[40])).bind fun x196 =>
    some (Ctl.brk x196))
    else
    ((scat s164 (ByteArray.mk #[44])).bind fun x197 =>
    some (Ctl.brk x197)))).bind fun (o192 : Ctl _ (ByteArray)) => match o192 with
    | .ret r => some r
    | .go _ => none
    | .brk s191 =>
    ((m_spec_l1Type n p0 x171).bind fun r198 =>
    ((scat s191 r198).bind fun x199 =>
    some (Ctl.go x199))))) 0 p1.args p1.name).bind fun (o163 : Ctl _ (ByteArray)) => match o163 with
    | .ret r => some r
    | .go _ => none
    | .brk s174 =>
    (((if (ilt 0 (lenZ p1.args.length)) = true then
    ((scat s174 (ByteArray.mk #[41])).bind fun x208 =>
    some (Ctl.brk x208))
    else
    some (Ctl.brk s174))).bind fun (o204 : Ctl _ (ByteArray)) => match o204 with
    | .ret r => some r
    | .go _ => none
    | .brk s203 =>
    (((if (ilt 0 p1.index) = true then
    ((scat s203 (ByteArray.mk #[58])).bind fun x219 =>
    ((m_spec_l17Dec n p1.index).bind fun r220 =>
    ((scat x219 r220).bind fun x221 =>
    some (Ctl.brk x221))))
    else
    some (Ctl.brk s203))).bind fun (o215 : Ctl _ (ByteArray)) => match o215 with
    | .ret r => some r
    | .go _ => none
    | .brk s214 =>
    some (s214))))
def m_spec_l1Text (n : Nat) (p0 : (List GData)) : Option (ByteArray) :=
    ((forL (fun k1020 x1021 (s1014 : ByteArray) =>
    (((if (ilt 0 (k1020 : Int)) = true then
    ((scat s1014 (ByteArray.mk #[59])).bind fun x1130 =>
    some (Ctl.brk x1130))
    else
    some (Ctl.brk s1014))).bind fun (o1126 : Ctl _ (ByteArray)) => match o1126 with
    | .ret r => some r
    | .go _ => none
    | .brk s1125 =>
    ((scat s1125 x1021.name).bind fun x1131 =>
    ((scat x1131 (ByteArray.mk #[61])).bind fun x1132 =>
    ((forL (fun k1194 x1195 (s1188 : ByteArray) =>
    (((if (ilt 0 (k1194 : Int)) = true then
    ((scat s1188 (ByteArray.mk #[124])).bind fun x1217 =>
    some (Ctl.brk x1217))
    else
    some (Ctl.brk s1188))).bind fun (o1213 : Ctl _ (ByteArray)) => match o1213 with
    | .ret r => some r
    | .go _ => none
    | .brk s1212 =>
    ((m_spec_l1CtorText n p0 x1195).bind fun r1218 =>
    ((scat s1212 r1218).bind fun x1219 =>
    some (Ctl.go x1219))))) 0 x1021.ctors x1132).bind fun (o1187 : Ctl _ (ByteArray)) => match o1187 with
    | .ret r => some r
    | .go _ => none
    | .brk s1198 =>
    some (Ctl.go s1198)))))) 0 p0 (ByteArray.mk #[])).bind fun (o1013 : Ctl _ (ByteArray)) => match o1013 with
    | .ret r => some r
    | .go _ => none
    | .brk s1024 =>
    some (s1024))
def m_spec_ParseWorld (n : Nat) (p0 : ByteArray) : Option ((List GData) × Bool) :=
    ((m_spec_l17Cut n p0 59).bind fun r1 =>
    ((forL (fun k167 x168 (s161 : (List ByteArray)) =>
    (if (ile (k167 : Int) 4) = true then
    (if (!seq2 p0 (ByteArray.mk #[])) = true then
    ((m_spec_l17Cut n x168 61).bind fun r188 =>
    (if (!ieq (lenZ r188.length) 2) = true then
    some (Ctl.ret (([], false)))
    else
    ((idx r188 0).bind fun x191 =>
    ((app s161 [x191]).bind fun x192 =>
    some (Ctl.go x192)))))
    else
    some (Ctl.brk s161))
    else
    some (Ctl.brk s161))) 0 r1 []).bind fun (o160 : Ctl _ ((List ByteArray))) => match o160 with
    | .ret r => some r
    | .go _ => none
    | .brk s171 =>
    ((forL (fun k1463 x1464 (s1457 : (List GData)) =>
    ((idx r1 (k1463 : Int)).bind fun x1591 =>
    ((m_spec_l17Cut n x1591 61).bind fun r1592 =>
    ((idx r1592 1).bind fun x1593 =>
    ((m_spec_l17Cut n x1593 124).bind fun r1594 =>
    ((forL (fun k1698 x1699 (s1692 : (List GCtor)) =>
    (if (ile (k1698 : Int) 4) = true then
    ((m_spec_l1ParseCtor n s171 x1699).bind fun r1708 =>
    ((app s1692 [r1708]).bind fun x1709 =>
    some (Ctl.go x1709)))
    else
    some (Ctl.brk s1692))) 0 r1594 []).bind fun (o1691 : Ctl _ ((List GCtor))) => match o1691 with
    | .ret r => some r
    | .go _ => none
    | .brk s1702 =>
    ((app s1457 [(GData.mk x1464 s1702)]).bind fun x1711 =>
    some (Ctl.go (s1457 ++ [(GData.mk x1464 s1702)]))))))))) 0 s171 []).bind fun (o1456 : Ctl _ ((List GData))) => match o1456 with
    | .ret r => some r
    | .go _ => none
    | .brk s1467 =>
    ((m_spec_WorldValid n s1467).bind fun r1747 =>
    (if (!r1747) = true then
    some (([], false))
    else
    ((m_spec_l1Text n s1467).bind fun r1750 =>
    (if (!seq2 r1750 p0) = true then
    some (([], false))
    else
    some ((s1467, true)))))))))
def m_spec_l1Texts  : Option ((List ByteArray)) :=
    some ([(ByteArray.mk #[76, 61, 78, 105, 108, 124, 67, 111, 110, 115, 40, 73, 44, 76, 41]), (ByteArray.mk #[66, 61, 84, 114, 117, 124, 70, 108, 115, 59, 84, 61, 76, 101, 97, 102, 124, 78, 111, 100, 101, 40, 84, 44, 66, 44, 84, 41]), (ByteArray.mk #[69, 61, 78, 117, 109, 40, 73, 41, 58, 49, 124, 66, 111, 108, 40, 66, 41, 58, 50, 124, 65, 100, 100, 40, 69, 49, 44, 69, 49, 41, 58, 49, 124, 73, 102, 40, 69, 50, 44, 69, 42, 44, 69, 42, 41, 59, 66, 61, 84, 114, 117, 124, 70, 108, 115]), (ByteArray.mk #[79, 61, 78, 111, 110, 124, 83, 111, 109, 40, 73, 41, 59, 80, 61, 80, 97, 105, 114, 40, 79, 44, 79, 41]), (ByteArray.mk #[86, 61, 69, 110, 100, 58, 49, 124, 83, 111, 109, 101, 40, 73, 44, 86, 49, 41, 58, 50, 124, 84, 119, 111, 40, 86, 42, 41]), (ByteArray.mk #[78, 61, 78, 101, 118, 101, 114, 40, 78, 41, 59, 66, 61, 84, 114, 117, 124, 70, 108, 115, 124, 77, 97, 121, 40, 78, 41]), (ByteArray.mk #[83, 61, 82, 101, 100, 124, 71, 114, 101, 101, 110, 124, 66, 108, 117, 101, 124, 77, 105, 120, 40, 83, 44, 83, 41]), (ByteArray.mk #[])])
def m_spec_l1World (n : Nat) (p0 : Gl17Rd) : Option ((List GData) × Gl17Rd) :=
    ((m_spec_l1Texts).bind fun r1 =>
    ((m_spec_l17Rd_pick p0 (wsub .i64 (lenZ r1.length) 1)).bind fun r2 =>
    ((idx r1 r2.1).bind fun x3 =>
    ((m_spec_ParseWorld n x3).bind fun r4 =>
    some ((r4.1, r2.2))))))
def m_spec_l2Typed (n : Nat) (p0 : Gl17Rd) : Option ((List GData) × GType × GValue × Gl17Rd) :=
    ((m_spec_l1World n p0).bind fun r1 =>
    ((m_spec_l1Table n r1.1).bind fun r2 =>
    ((m_spec_l17Rd_pick r1.2 (lenZ r1.1.length)).bind fun r3 =>
    ((m_spec_l17Rd_num r3.2 [0, 0, 1, 2]).bind fun r4 =>
    ((((m_spec_l1Depth r2 (GType.mk r3.1 r4.1)).bind fun r12 =>
    (if (ieq r12 0) = true then
    some (Ctl.brk ((-1), 0))
    else
    some (Ctl.brk (r3.1, r4.1))))).bind fun (o9 : Ctl _ (Int × Int)) => match o9 with
    | .ret r => some r
    | .go _ => none
    | .brk s8 =>
    ((m_spec_l17Rd_num r4.2 [3, 2, 4, 1]).bind fun r15 =>
    ((m_spec_l2Draw n r15.2 r1.1 r2 (GType.mk s8.1 s8.2) r15.1).bind fun r16 =>
    some ((r1.1, (GType.mk s8.1 s8.2), r16.1, r16.2)))))))))
def m_spec_l4Typed (n : Nat) (p0 : Gl17Rd) : Option ((List GData) × GType × (List GClause) × GValue × Gl17Rd) :=
    ((m_spec_l2Typed n p0).bind fun r1 =>
    ((m_spec_l4List n r1.2.2.2 r1.1 r1.2.1).bind fun r2 =>
    some ((r1.1, r1.2.1, r2.1, r1.2.2.1, r2.2))))
def m_slices_IndexFunc_Clause (p0 : (List GClause)) (p1 : (GClause → Option Bool)) : Option (Int) :=
    ((forL (fun k68 x69 (s62 : Unit) =>
    ((p1 x69).bind fun r76 =>
    (if r76 = true then
    some (Ctl.ret ((k68 : Int)))
    else
    some (Ctl.go ())))) 0 p0 ()).bind fun (o61 : Ctl _ (Unit)) => match o61 with
    | .ret r => some r
    | .go _ => none
    | .brk s72 =>
    some ((-1)))
def m_slices_ContainsFunc_Clause (p0 : (List GClause)) (p1 : (GClause → Option Bool)) : Option (Bool) :=
    ((m_slices_IndexFunc_Clause p0 p1).bind fun r1 =>
    some (ile 0 r1))
def m_impl_within (p0 : Int) (p1 : Int) (p2 : Int) : Option (Bool) :=
    (if (ile p1 p0) = true then
    some (ile p0 p2)
    else
    some (false))
def m_slices_IndexFunc_Type (p0 : (List GType)) (p1 : (GType → Option Bool)) : Option (Int) :=
    ((forL (fun k68 x69 (s62 : Unit) =>
    ((p1 x69).bind fun r76 =>
    (if r76 = true then
    some (Ctl.ret ((k68 : Int)))
    else
    some (Ctl.go ())))) 0 p0 ()).bind fun (o61 : Ctl _ (Unit)) => match o61 with
    | .ret r => some r
    | .go _ => none
    | .brk s72 =>
    some ((-1)))
def m_slices_ContainsFunc_Type (p0 : (List GType)) (p1 : (GType → Option Bool)) : Option (Bool) :=
    ((m_slices_IndexFunc_Type p0 p1).bind fun r1 =>
    some (ile 0 r1))
def m_impl_NameValid (n : Nat) (p0 : ByteArray) : Option (Bool) :=
    ((m_impl_within (lenZ p0.size) 1 5).bind fun r39 =>
    (if (!r39) = true then
    some (false)
    else
    ((sidx p0 0).bind fun x42 =>
    (if (ilt x42 65) = true then
    some (false)
    else
    (if (ilt 90 x42) = true then
    some (false)
    else
    ((whileL (fun (s151 : Int) =>
    (if (ilt s151 (lenZ p0.size)) = true then
    ((sidx p0 s151).bind fun x177 =>
    (if (ilt x177 97) = true then
    some (Ctl.ret (false))
    else
    (if (ilt 122 x177) = true then
    some (Ctl.ret (false))
    else
    some (Ctl.go (wadd .i64 s151 1)))))
    else
    some (Ctl.brk s151))) n 1).bind fun (o150 : Ctl _ (Int)) => match o150 with
    | .ret r => some r
    | .go _ => none
    | .brk s161 =>
    some (true)))))))
def m_impl_argOk (p0 : (List GData)) (p1 : GType) : Option (Bool) :=
    (if (eqAll [ieq p1.data (-1), ieq p1.index 0]) = true then
    some (true)
    else
    ((m_impl_within p1.data 0 (wsub .i64 (lenZ p0.length) 1)).bind fun r9 =>
    (if r9 = true then
    ((m_impl_within p1.index (-1) 3).bind fun r11 =>
    some (r11))
    else
    some (false))))
def m_impl_ctorOk_1 (p0 : GType) (q0 : (List GData)) : Option (Bool) :=
    ((m_impl_argOk q0 p0).bind fun r1 =>
    some ((!r1)))
def m_impl_ctorOk (n : Nat) (p0 : (List GData)) (p1 : GCtor) : Option (Bool) :=
    ((m_impl_NameValid n p1.name).bind fun r14 =>
    (if r14 = true then
    (if (ile (lenZ p1.args.length) 3) = true then
    ((m_impl_within p1.index 0 3).bind fun r17 =>
    (if r17 = true then
    ((m_slices_ContainsFunc_Type p1.args (fun a0 => m_impl_ctorOk_1 a0 p0)).bind fun r19 =>
    some ((!r19)))
    else
    some (false)))
    else
    some (false))
    else
    some (false)))
def m_impl_WorldValid (n : Nat) (p0 : (List GData)) : Option (Bool) :=
    (if (ilt 4 (lenZ p0.length)) = true then
    some (false)
    else
    ((forL (fun k2464 x2465 (s2458 : (List (ByteArray × Bool)) × (List (ByteArray × Bool))) =>
    (if (!ieq (lenZ x2465.name.size) 1) = true then
    some (Ctl.ret (false))
    else
    ((sidx x2465.name 0).bind fun x2755 =>
    (if (ilt x2755 65) = true then
    some (Ctl.ret (false))
    else
    (if (ilt 90 x2755) = true then
    some (Ctl.ret (false))
    else
    (if (seq2 x2465.name (ByteArray.mk #[73])) = true then
    some (Ctl.ret (false))
    else
    (if (mget s2458.2 x2465.name false) = true then
    some (Ctl.ret (false))
    else
    ((m_impl_within (lenZ x2465.ctors.length) 1 4).bind fun r2760 =>
    (if (!r2760) = true then
    some (Ctl.ret (false))
    else
    ((forL (fun k2891 x2892 (s2885 : (List (ByteArray × Bool))) =>
    ((m_impl_ctorOk n p0 x2892).bind fun r2947 =>
    (if (!r2947) = true then
    some (Ctl.ret (Ctl.ret (false)))
    else
    (if (mget s2885 x2892.name false) = true then
    some (Ctl.ret (Ctl.ret (false)))
    else
    some (Ctl.go (mset s2885 x2892.name true)))))) 0 x2465.ctors s2458.1).bind fun (o2884 : Ctl _ ((List (ByteArray × Bool)))) => match o2884 with
    | .ret r => some r
    | .go _ => none
    | .brk s2895 =>
    some (Ctl.go (s2895, mset s2458.2 x2465.name true)))))))))))) 0 p0 ([], [])).bind fun (o2457 : Ctl _ ((List (ByteArray × Bool)) × (List (ByteArray × Bool)))) => match o2457 with
    | .ret r => some r
    | .go _ => none
    | .brk s2468 =>
    some (true)))
def m_impl_typeOk (p0 : (List GData)) (p1 : GType) : Option (Bool) :=
    (if (eqAll [ieq p1.data (-1), ieq p1.index 0]) = true then
    some (true)
    else
    ((m_impl_within p1.data 0 (wsub .i64 (lenZ p0.length) 1)).bind fun r9 =>
    (if r9 = true then
    ((m_impl_within p1.index 0 3).bind fun r11 =>
    some (r11))
    else
    some (false))))
def m_impl_TypeValid (n : Nat) (p0 : (List GData)) (p1 : GType) : Option (Bool) :=
    ((m_impl_WorldValid n p0).bind fun r7 =>
    (if r7 = true then
    ((m_impl_typeOk p0 p1).bind fun r9 =>
    some (r9))
    else
    some (false)))
def m_slices_IndexFunc_VarType (p0 : (List GVarType)) (p1 : (GVarType → Option Bool)) : Option (Int) :=
    ((forL (fun k68 x69 (s62 : Unit) =>
    ((p1 x69).bind fun r76 =>
    (if r76 = true then
    some (Ctl.ret ((k68 : Int)))
    else
    some (Ctl.go ())))) 0 p0 ()).bind fun (o61 : Ctl _ (Unit)) => match o61 with
    | .ret r => some r
    | .go _ => none
    | .brk s72 =>
    some ((-1)))
def m_slices_ContainsFunc_VarType (p0 : (List GVarType)) (p1 : (GVarType → Option Bool)) : Option (Bool) :=
    ((m_slices_IndexFunc_VarType p0 p1).bind fun r1 =>
    some (ile 0 r1))
def m_slices_Index_VarType (p0 : (List GVarType)) (p1 : GVarType) : Option (Int) :=
    ((forL (fun k48 x49 (s42 : Unit) =>
    (if (eqAll [ieq p1.var x49.var, ieq p1.typ.data x49.typ.data, ieq p1.typ.index x49.typ.index]) = true then
    some (Ctl.ret ((k48 : Int)))
    else
    some (Ctl.go ()))) 0 p0 ()).bind fun (o41 : Ctl _ (Unit)) => match o41 with
    | .ret r => some r
    | .go _ => none
    | .brk s52 =>
    some ((-1)))
def m_slices_Contains_VarType (p0 : (List GVarType)) (p1 : GVarType) : Option (Bool) :=
    ((m_slices_Index_VarType p0 p1).bind fun r1 =>
    some (ile 0 r1))
def m_impl_sameVars_1 (p0 : GVarType) (q0 : (List GVarType)) : Option (Bool) :=
    ((m_slices_Contains_VarType q0 p0).bind fun r1 =>
    some ((!r1)))
def m_impl_sameVars (p0 : (List GVarType)) (p1 : (List GVarType)) : Option (Bool) :=
    (if (ieq (lenZ p0.length) (lenZ p1.length)) = true then
    ((m_slices_ContainsFunc_VarType p0 (fun a0 => m_impl_sameVars_1 a0 p1)).bind fun r5 =>
    some ((!r5)))
    else
    some (false))
def m_impl_ctorsOf (p0 : (List GData)) (p1 : GType) : Option ((List Int)) :=
    (((if (!ieq p1.data (-1)) = true then
    ((idx p0 p1.data).bind fun x126 =>
    ((forL (fun k208 x209 (s202 : (List Int)) =>
    (((if (ieq p1.index 0) = true then
    ((app s202 [(k208 : Int)]).bind fun x240 =>
    some (Ctl.brk x240))
    else
    (if (ieq x209.index 0) = true then
    ((app s202 [(k208 : Int)]).bind fun x242 =>
    some (Ctl.brk x242))
    else
    (if (ieq x209.index p1.index) = true then
    ((app s202 [(k208 : Int)]).bind fun x244 =>
    some (Ctl.brk x244))
    else
    some (Ctl.brk s202))))).bind fun (o228 : Ctl _ ((List Int))) => match o228 with
    | .ret r => some r
    | .go _ => none
    | .brk s227 =>
    some (Ctl.go s227))) 0 x126.ctors []).bind fun (o201 : Ctl _ ((List Int))) => match o201 with
    | .ret r => some r
    | .go _ => none
    | .brk s212 =>
    some (Ctl.brk s212)))
    else
    some (Ctl.brk []))).bind fun (o122 : Ctl _ ((List Int))) => match o122 with
    | .ret r => some r
    | .go _ => none
    | .brk s121 =>
    some (s121))
def m_impl_argTypes (p0 : (List GData)) (p1 : GType) (p2 : Int) : Option ((List GType)) :=
    ((idx p0 p1.data).bind fun x1 =>
    ((idx x1.ctors p2).bind fun x2 =>
    (((if (ieq x2.index 0) = true then
    some (Ctl.brk p1.index)
    else
    some (Ctl.brk x2.index))).bind fun (o5 : Ctl _ (Int)) => match o5 with
    | .ret r => some r
    | .go _ => none
    | .brk s4 =>
    ((forL (fun k118 x119 (s112 : (List GType)) =>
    (((if (ieq x119.index (-1)) = true then
    some (Ctl.brk s4)
    else
    some (Ctl.brk x119.index))).bind fun (o132 : Ctl _ (Int)) => match o132 with
    | .ret r => some r
    | .go _ => none
    | .brk s131 =>
    ((app s112 [(GType.mk x119.data s131)]).bind fun x136 =>
    some (Ctl.go x136)))) 0 x2.args []).bind fun (o111 : Ctl _ ((List GType))) => match o111 with
    | .ret r => some r
    | .go _ => none
    | .brk s122 =>
    some (s122)))))
def m_impl_only (p0 : GPattern) (p1 : Bool) (p2 : Bool) (p3 : Bool) (p4 : Int) : Option (Bool) :=
    (if p1 = true then
    (if p2 = true then
    (if p3 = true then
    some (ieq (lenZ p0.kids.length) p4)
    else
    (if (ieq p0.var 0) = true then
    some (ieq (lenZ p0.kids.length) p4)
    else
    some (false)))
    else
    (if (ieq p0.n 0) = true then
    (if (ieq p0.m 0) = true then
    (if p3 = true then
    some (ieq (lenZ p0.kids.length) p4)
    else
    (if (ieq p0.var 0) = true then
    some (ieq (lenZ p0.kids.length) p4)
    else
    some (false)))
    else
    some (false))
    else
    some (false)))
    else
    (if (ieq p0.ctor 0) = true then
    (if p2 = true then
    (if p3 = true then
    some (ieq (lenZ p0.kids.length) p4)
    else
    (if (ieq p0.var 0) = true then
    some (ieq (lenZ p0.kids.length) p4)
    else
    some (false)))
    else
    (if (ieq p0.n 0) = true then
    (if (ieq p0.m 0) = true then
    (if p3 = true then
    some (ieq (lenZ p0.kids.length) p4)
    else
    (if (ieq p0.var 0) = true then
    some (ieq (lenZ p0.kids.length) p4)
    else
    some (false)))
    else
    some (false))
    else
    some (false)))
    else
    some (false)))
def m_impl_isVar (p0 : Int) : Option (Bool) :=
    ((m_impl_within p0 0 5).bind fun r1 =>
    some (r1))
def m_slices_Index_int (p0 : (List Int)) (p1 : Int) : Option (Int) :=
    ((forL (fun k48 x49 (s42 : Unit) =>
    (if (ieq p1 x49) = true then
    some (Ctl.ret ((k48 : Int)))
    else
    some (Ctl.go ()))) 0 p0 ()).bind fun (o41 : Ctl _ (Unit)) => match o41 with
    | .ret r => some r
    | .go _ => none
    | .brk s52 =>
    some ((-1)))
def m_slices_Contains_int (p0 : (List Int)) (p1 : Int) : Option (Bool) :=
    ((m_slices_Index_int p0 p1).bind fun r1 =>
    some (ile 0 r1))
def m_impl_shape (p0 : (List GData)) (p1 : GType) (p2 : GPattern) : Option ((List GType) × Bool) :=
    (if (ieq p2.op 1) = true then
    ((m_impl_only p2 false false false 0).bind fun r68 =>
    some (([], r68)))
    else
    (if (ieq p2.op 2) = true then
    ((m_impl_only p2 false false true 0).bind fun r77 =>
    (if r77 = true then
    ((m_impl_isVar p2.var).bind fun r79 =>
    some (([], r79)))
    else
    some (([], false))))
    else
    (if (ieq p2.op 3) = true then
    (if (ieq p1.data (-1)) = true then
    ((m_impl_only p2 false true false 0).bind fun r94 =>
    (if r94 = true then
    (if (ile 0 p2.n) = true then
    (if (ile p2.n p2.m) = true then
    some (([], ile p2.m 9))
    else
    some (([], false)))
    else
    some (([], false)))
    else
    some (([], false))))
    else
    some (([], false)))
    else
    (if (ieq p2.op 4) = true then
    ((m_impl_ctorsOf p0 p1).bind fun r108 =>
    ((m_slices_Contains_int r108 p2.ctor).bind fun r109 =>
    (if (!r109) = true then
    some (([], false))
    else
    ((m_impl_argTypes p0 p1 p2.ctor).bind fun r111 =>
    ((m_impl_only p2 true false false (lenZ r111.length)).bind fun r112 =>
    some ((r111, r112)))))))
    else
    (if (ieq p2.op 5) = true then
    ((m_impl_only p2 false false false 2).bind fun r118 =>
    some (([p1, p1], r118)))
    else
    (if (ieq p2.op 6) = true then
    ((m_impl_only p2 false false true 1).bind fun r127 =>
    (if r127 = true then
    ((m_impl_isVar p2.var).bind fun r129 =>
    some (([p1], r129)))
    else
    some (([p1], false))))
    else
    some (([], false))))))))
def m_impl_patternScan : Nat → (List GData) → GType → GPattern → Int → Int → Option ((List GVarType) × Bool × Int)
  | 0, _, _, _, _, _ => none
  | n + 1, p0, p1, p2, p3, p4 =>
    (if (ilt 60 (wadd .i64 p4 1)) = true then
    some (([], false, wadd .i64 p4 1))
    else
    (if (ilt 10 p3) = true then
    some (([], false, wadd .i64 p4 1))
    else
    ((m_impl_shape p0 p1 p2).bind fun r11 =>
    (if (!r11.2) = true then
    some (([], false, wadd .i64 p4 1))
    else
    (((if (ieq p2.op 2) = true then
    ((app [] [(GVarType.mk p2.var p1)]).bind fun x33 =>
    some (Ctl.brk [(GVarType.mk p2.var p1)]))
    else
    (if (ieq p2.op 6) = true then
    ((app [] [(GVarType.mk p2.var p1)]).bind fun x35 =>
    some (Ctl.brk [(GVarType.mk p2.var p1)]))
    else
    some (Ctl.brk [])))).bind fun (o24 : Ctl _ ((List GVarType))) => match o24 with
    | .ret r => some r
    | .go _ => none
    | .brk s23 =>
    ((forL (fun k287 x288 (s281 : Int × (List GVarType)) =>
    ((((idx r11.1 (k287 : Int)).bind fun x315 =>
    ((m_impl_patternScan n p0 x315 x288 (wadd .i64 p3 1) s281.1).bind fun r316 =>
    (if (!r316.2.1) = true then
    some (Ctl.ret (Ctl.ret (([], false, r316.2.2))))
    else
    (if (ieq p2.op 5) = true then
    (if (ieq (k287 : Int) 1) = true then
    ((m_impl_sameVars s281.2 r316.1).bind fun r328 =>
    (if (!r328) = true then
    some (Ctl.ret (Ctl.ret (([], false, r316.2.2))))
    else
    some (Ctl.brk (r316.2.2, s281.2))))
    else
    ((app s281.2 r316.1).bind fun x331 =>
    some (Ctl.brk (r316.2.2, x331))))
    else
    ((app s281.2 r316.1).bind fun x332 =>
    some (Ctl.brk (r316.2.2, x332)))))))).bind fun (o312 : Ctl _ (Int × (List GVarType))) => match o312 with
    | .ret r => some r
    | .go _ => none
    | .brk s311 =>
    some (Ctl.go (s311.1, s311.2)))) 0 p2.kids (wadd .i64 p4 1, s23)).bind fun (o280 : Ctl _ (Int × (List GVarType))) => match o280 with
    | .ret r => some r
    | .go _ => none
    | .brk s291 =>
    ((forL (fun k423 x424 (s417 : (List Bool)) =>
    ((aget 6 s417 x424.var).bind fun x435 =>
    (if x435 = true then
    some (Ctl.ret (([], false, s291.1)))
    else
    ((aset 6 s417 x424.var true).bind fun x437 =>
    some (Ctl.go x437))))) 0 s291.2 [false, false, false, false, false, false]).bind fun (o416 : Ctl _ ((List Bool))) => match o416 with
    | .ret r => some r
    | .go _ => none
    | .brk s427 =>
    some ((s291.2, true, s291.1)))))))))
def m_impl_patternVars (n : Nat) (p0 : (List GData)) (p1 : GType) (p2 : GPattern) : Option ((List GVarType) × Bool) :=
    ((m_impl_patternScan n p0 p1 p2 1 0).bind fun r1 =>
    some ((r1.1, r1.2.1)))
def m_impl_guardOk (p0 : GGuard) (p1 : (List GVarType)) : Option (Bool) :=
    (if (ieq p0.op 0) = true then
    some (eqAll [ieq p0.op 0, ieq p0.var 0, ieq p0.n 0])
    else
    ((m_impl_within p0.op 1 2).bind fun r14 =>
    (if r14 = true then
    ((m_impl_within p0.n 0 9).bind fun r16 =>
    (if r16 = true then
    ((m_slices_Contains_VarType p1 (GVarType.mk p0.var (GType.mk (-1) 0))).bind fun r18 =>
    some (r18))
    else
    some (false)))
    else
    some (false))))
def m_impl_clauseOk (n : Nat) (p0 : (List GData)) (p1 : GType) (p2 : GClause) : Option (Bool) :=
    ((m_impl_patternVars n p0 p1 p2.pat).bind fun r1 =>
    (if r1.2 = true then
    ((m_impl_guardOk p2.guard r1.1).bind fun r6 =>
    some (r6))
    else
    some (false)))
def m_impl_ClausesValid_1 (n : Nat) (p0 : GClause) (q0 : (List GData)) (q1 : GType) : Option (Bool) :=
    ((m_impl_clauseOk n q0 q1 p0).bind fun r1 =>
    some ((!r1)))
def m_impl_ClausesValid (n : Nat) (p0 : (List GData)) (p1 : GType) (p2 : (List GClause)) : Option (Bool) :=
    ((m_impl_TypeValid n p0 p1).bind fun r9 =>
    (if r9 = true then
    (if (ile (lenZ p2.length) 8) = true then
    ((m_slices_ContainsFunc_Clause p2 (fun a0 => m_impl_ClausesValid_1 n a0 p0 p1)).bind fun r12 =>
    some ((!r12)))
    else
    some (false))
    else
    some (false)))
def m_impl_valueScan : Nat → (List GData) → GType → GValue → Int → Bool → Int → Option (Bool × Int)
  | 0, _, _, _, _, _, _ => none
  | n + 1, p0, p1, p2, p3, p4, p5 =>
    (if (ilt 60 (wadd .i64 p5 1)) = true then
    some ((false, wadd .i64 p5 1))
    else
    (if (ilt 10 p3) = true then
    some ((false, wadd .i64 p5 1))
    else
    (((if p4 = true then
    (if (ieq p2.ctor (-2)) = true then
    (if (ieq p2.n 0) = true then
    some (Ctl.ret ((ieq (lenZ p2.kids.length) 0, wadd .i64 p5 1)))
    else
    some (Ctl.ret ((false, wadd .i64 p5 1))))
    else
    (if (ieq p1.data (-1)) = true then
    (if (ieq p2.ctor (-1)) = true then
    ((m_impl_within p2.n 0 9).bind fun r208 =>
    (if r208 = true then
    some (Ctl.ret ((ieq (lenZ p2.kids.length) 0, wadd .i64 p5 1)))
    else
    some (Ctl.ret ((false, wadd .i64 p5 1)))))
    else
    some (Ctl.ret ((false, wadd .i64 p5 1))))
    else
    (if (!ieq p2.n 0) = true then
    some (Ctl.ret ((false, wadd .i64 p5 1)))
    else
    ((m_impl_ctorsOf p0 p1).bind fun r224 =>
    ((m_slices_Contains_int r224 p2.ctor).bind fun r225 =>
    (if (!r225) = true then
    some (Ctl.ret ((false, wadd .i64 p5 1)))
    else
    some (Ctl.brk ())))))))
    else
    (if (ieq p1.data (-1)) = true then
    (if (ieq p2.ctor (-1)) = true then
    ((m_impl_within p2.n 0 9).bind fun r236 =>
    (if r236 = true then
    some (Ctl.ret ((ieq (lenZ p2.kids.length) 0, wadd .i64 p5 1)))
    else
    some (Ctl.ret ((false, wadd .i64 p5 1)))))
    else
    some (Ctl.ret ((false, wadd .i64 p5 1))))
    else
    (if (!ieq p2.n 0) = true then
    some (Ctl.ret ((false, wadd .i64 p5 1)))
    else
    ((m_impl_ctorsOf p0 p1).bind fun r252 =>
    ((m_slices_Contains_int r252 p2.ctor).bind fun r253 =>
    (if (!r253) = true then
    some (Ctl.ret ((false, wadd .i64 p5 1)))
    else
    some (Ctl.brk ())))))))).bind fun (o133 : Ctl _ (Unit)) => match o133 with
    | .ret r => some r
    | .go _ => none
    | .brk s132 =>
    ((m_impl_argTypes p0 p1 p2.ctor).bind fun r257 =>
    (if (!ieq (lenZ r257.length) (lenZ p2.kids.length)) = true then
    some ((false, wadd .i64 p5 1))
    else
    ((forL (fun k339 x340 (s333 : Int) =>
    ((idx r257 (k339 : Int)).bind fun x348 =>
    ((m_impl_valueScan n p0 x348 x340 (wadd .i64 p3 1) p4 s333).bind fun r349 =>
    (if (!r349.1) = true then
    some (Ctl.ret ((false, r349.2)))
    else
    some (Ctl.go r349.2))))) 0 p2.kids (wadd .i64 p5 1)).bind fun (o332 : Ctl _ (Int)) => match o332 with
    | .ret r => some r
    | .go _ => none
    | .brk s343 =>
    some ((true, s343))))))))
def m_impl_valueOk (n : Nat) (p0 : (List GData)) (p1 : GType) (p2 : GValue) : Option (Bool) :=
    ((m_impl_valueScan n p0 p1 p2 1 false 0).bind fun r1 =>
    some (r1.1))
def m_impl_match : Nat → GPattern → GValue → Option ((List GBind) × Bool)
  | 0, _, _ => none
  | n + 1, p0, p1 =>
    (if (ieq p0.op 1) = true then
    some (([], true))
    else
    (if (ieq p0.op 2) = true then
    some (([(GBind.mk p0.var p1)], true))
    else
    (if (ieq p0.op 3) = true then
    ((m_impl_within p1.n p0.n p0.m).bind fun r26 =>
    some (([], r26)))
    else
    (if (ieq p0.op 5) = true then
    ((idx p0.kids 0).bind fun x33 =>
    ((m_impl_match n x33 p1).bind fun r34 =>
    (if r34.2 = true then
    some ((r34.1, true))
    else
    ((idx p0.kids 1).bind fun x36 =>
    ((m_impl_match n x36 p1).bind fun r37 =>
    some ((r37.1, r37.2)))))))
    else
    (if (ieq p0.op 6) = true then
    ((idx p0.kids 0).bind fun x41 =>
    ((m_impl_match n x41 p1).bind fun r42 =>
    ((app [(GBind.mk p0.var p1)] r42.1).bind fun x43 =>
    some ((x43, r42.2)))))
    else
    (if (!ieq p0.ctor p1.ctor) = true then
    some (([], false))
    else
    ((forL (fun k146 x147 (s140 : (List GBind)) =>
    ((idx p1.kids (k146 : Int)).bind fun x157 =>
    ((m_impl_match n x147 x157).bind fun r158 =>
    (if (!r158.2) = true then
    some (Ctl.ret (([], false)))
    else
    ((app s140 r158.1).bind fun x161 =>
    some (Ctl.go x161)))))) 0 p0.kids []).bind fun (o139 : Ctl _ ((List GBind))) => match o139 with
    | .ret r => some r
    | .go _ => none
    | .brk s150 =>
    some ((s150, true)))))))))
def m_slices_insertionSortCmpFunc_Bind (n : Nat) (p0 : (List GBind)) (p1 : Int) (p2 : Int) (p3 : (GBind → GBind → Option Int)) : Option ((List GBind)) :=
    ((whileL (fun (s544 : (List GBind) × Int) =>
    (if (ilt s544.2 p2) = true then
    ((whileL (fun (s774 : (List GBind) × Int) =>
    (if (ilt p1 s774.2) = true then
    ((idx s774.1 s774.2).bind fun x814 =>
    ((idx s774.1 (wsub .i64 s774.2 1)).bind fun x815 =>
    ((p3 x814 x815).bind fun r816 =>
    (if (ilt r816 0) = true then
    ((setI s774.1 s774.2 x815).bind fun x821 =>
    ((idx x821 (wsub .i64 s774.2 1)).bind fun x822 =>
    ((setI x821 (wsub .i64 s774.2 1) x814).bind fun x823 =>
    some (Ctl.go (x823, wsub .i64 s774.2 1)))))
    else
    some (Ctl.brk (s774.1, s774.2))))))
    else
    some (Ctl.brk (s774.1, s774.2)))) n (s544.1, s544.2)).bind fun (o773 : Ctl _ ((List GBind) × Int)) => match o773 with
    | .ret r => some r
    | .go _ => none
    | .brk s784 =>
    some (Ctl.go (s784.1, wadd .i64 s544.2 1)))
    else
    some (Ctl.brk (s544.1, s544.2)))) n (p0, wadd .i64 p1 1)).bind fun (o543 : Ctl _ ((List GBind) × Int)) => match o543 with
    | .ret r => some r
    | .go _ => none
    | .brk s554 =>
    some (s554.1))
def m_math_bits_Len64 (p0 : Int) : Option (Int) :=
    (((if (ile 4294967296 p0) = true then
    some (Ctl.brk (wshr .u64 p0 32, 32))
    else
    some (Ctl.brk (p0, 0)))).bind fun (o3 : Ctl _ (Int × Int)) => match o3 with
    | .ret r => some r
    | .go _ => none
    | .brk s2 =>
    (((if (ile 65536 s2.1) = true then
    some (Ctl.brk (wshr .u64 s2.1 16, wadd .i64 s2.2 16))
    else
    some (Ctl.brk (s2.1, s2.2)))).bind fun (o9 : Ctl _ (Int × Int)) => match o9 with
    | .ret r => some r
    | .go _ => none
    | .brk s8 =>
    (((if (ile 256 s8.1) = true then
    some (Ctl.brk (wshr .u64 s8.1 8, wadd .i64 s8.2 8))
    else
    some (Ctl.brk (s8.1, s8.2)))).bind fun (o15 : Ctl _ (Int × Int)) => match o15 with
    | .ret r => some r
    | .go _ => none
    | .brk s14 =>
    ((sidx (ByteArray.mk #[0, 1, 2, 2, 3, 3, 3, 3, 4, 4, 4, 4, 4, 4, 4, 4, 5, 5, 5, 5, 5, 5, 5, 5, 5, 5, 5, 5, 5, 5, 5, 5, 6, 6, 6, 6, 6, 6, 6, 6, 6, 6, 6, 6, 6, 6, 6, 6, 6, 6, 6, 6, 6, 6, 6, 6, 6, 6, 6, 6, 6, 6, 6, 6, 7, 7, 7, 7, 7, 7, 7, 7, 7, 7, 7, 7, 7, 7, 7, 7, 7, 7, 7, 7, 7, 7, 7, 7, 7, 7, 7, 7, 7, 7, 7, 7, 7, 7, 7, 7, 7, 7, 7, 7, 7, 7, 7, 7, 7, 7, 7, 7, 7, 7, 7, 7, 7, 7, 7, 7, 7, 7, 7, 7, 7, 7, 7, 7, 8, 8, 8, 8, 8, 8, 8, 8, 8, 8, 8, 8, 8, 8, 8, 8, 8, 8, 8, 8, 8, 8, 8, 8, 8, 8, 8, 8, 8, 8, 8, 8, 8, 8, 8, 8, 8, 8, 8, 8, 8, 8, 8, 8, 8, 8, 8, 8, 8, 8, 8, 8, 8, 8, 8, 8, 8, 8, 8, 8, 8, 8, 8, 8, 8, 8, 8, 8, 8, 8, 8, 8, 8, 8, 8, 8, 8, 8, 8, 8, 8, 8, 8, 8, 8, 8, 8, 8, 8, 8, 8, 8, 8, 8, 8, 8, 8, 8, 8, 8, 8, 8, 8, 8, 8, 8, 8, 8, 8, 8, 8, 8, 8, 8, 8, 8, 8, 8, 8, 8, 8, 8, 8, 8, 8, 8, 8, 8]) (wcv .u8 s14.1)).bind fun x19 =>
    some (wadd .i64 s14.2 (wcv .i64 x19))))))
def m_math_bits_Len (p0 : Int) : Option (Int) :=
    ((m_math_bits_Len64 p0).bind fun r1 =>
    some (r1))
def m_slices_pdqsortCmpFunc_Bind : Nat → (List GBind) → Int → Int → Int → (GBind → GBind → Option Int) → Option ((List GBind))
  | 0, _, _, _, _, _ => none
  | n + 1, p0, p1, p2, p3, p4 =>
    ((whileL (fun (s12 : Unit) =>
    (if (ile (wsub .i64 p2 p1) 12) = true then
    ((m_slices_insertionSortCmpFunc_Bind n p0 p1 p2 p4).bind fun r28 =>
    ((chk (decide ((r28).length = (p0).length))).bind fun x29 =>
    some (Ctl.ret (r28))))
    else
    (if (ieq p3 0) = true then
    none
    else
    none))) n ()).bind fun (o11 : Ctl _ (Unit)) => match o11 with
    | .ret r => some r
    | .go _ => none
    | .brk s22 =>
    some (p0))
def m_slices_SortFunc_Bind (n : Nat) (p0 : (List GBind)) (p1 : (GBind → GBind → Option Int)) : Option ((List GBind)) :=
    ((m_math_bits_Len (wcv .u64 (lenZ p0.length))).bind fun r1 =>
    ((m_slices_pdqsortCmpFunc_Bind n p0 0 (lenZ p0.length) r1 p1).bind fun r2 =>
    ((chk (decide ((r2).length = (p0).length))).bind fun x3 =>
    some (r2))))
def m_cmp_isNaN_int (p0 : Int) : Option (Bool) :=
    some (!ieq p0 p0)
def m_cmp_Compare_int (p0 : Int) (p1 : Int) : Option (Int) :=
    ((m_cmp_isNaN_int p0).bind fun r1 =>
    ((m_cmp_isNaN_int p1).bind fun r2 =>
    (if r1 = true then
    (if r2 = true then
    some (0)
    else
    some ((-1)))
    else
    (if r2 = true then
    some (1)
    else
    (if (ilt p0 p1) = true then
    some ((-1))
    else
    (if (ilt p1 p0) = true then
    some (1)
    else
    some (0)))))))
def m_impl_matched_1 (p0 : GBind) (p1 : GBind) : Option (Int) :=
    ((m_cmp_Compare_int p0.var p1.var).bind fun r1 =>
    some (r1))
def m_impl_ownValue : Nat → GValue → Option (GValue)
  | 0, _ => none
  | n + 1, p0 =>
    ((forL (fun k70 x71 (s64 : (List GValue)) =>
    ((m_impl_ownValue n x71).bind fun r78 =>
    ((app s64 [r78]).bind fun x79 =>
    some (Ctl.go x79)))) 0 p0.kids []).bind fun (o63 : Ctl _ ((List GValue))) => match o63 with
    | .ret r => some r
    | .go _ => none
    | .brk s74 =>
    some ((GValue.mk p0.ctor p0.n s74)))
def m_impl_matched (n : Nat) (p0 : GPattern) (p1 : GValue) : Option ((List GBind) × Bool) :=
    ((m_impl_match n p0 p1).bind fun r1 =>
    (if (!r1.2) = true then
    some (([], false))
    else
    ((m_slices_SortFunc_Bind n r1.1 (fun a0 a1 => m_impl_matched_1 a0 a1)).bind fun r4 =>
    ((chk (decide ((r4).length = (r1.1).length))).bind fun x5 =>
    ((forL (fun k77 x78 (s71 : (List GBind)) =>
    ((idx s71 (k77 : Int)).bind fun x86 =>
    ((m_impl_ownValue n x86.value).bind fun r87 =>
    ((setI s71 (k77 : Int) (GBind.mk x86.var r87)).bind fun x88 =>
    some (Ctl.go x88))))) 0 r4 r4).bind fun (o70 : Ctl _ ((List GBind))) => match o70 with
    | .ret r => some r
    | .go _ => none
    | .brk s81 =>
    some ((s81, true)))))))
def m_slices_IndexFunc_Bind (p0 : (List GBind)) (p1 : (GBind → Option Bool)) : Option (Int) :=
    ((forL (fun k68 x69 (s62 : Unit) =>
    ((p1 x69).bind fun r76 =>
    (if r76 = true then
    some (Ctl.ret ((k68 : Int)))
    else
    some (Ctl.go ())))) 0 p0 ()).bind fun (o61 : Ctl _ (Unit)) => match o61 with
    | .ret r => some r
    | .go _ => none
    | .brk s72 =>
    some ((-1)))
def m_impl_GuardHolds_1 (p0 : GBind) (q0 : GGuard) : Option (Bool) :=
    some (ieq p0.var q0.var)
def m_impl_GuardHolds (p0 : GGuard) (p1 : (List GBind)) : Option (Bool) :=
    (if (ieq p0.op 0) = true then
    some (true)
    else
    ((m_slices_IndexFunc_Bind p1 (fun a0 => m_impl_GuardHolds_1 a0 p0)).bind fun r3 =>
    (if (ilt r3 0) = true then
    some (false)
    else
    ((idx p1 r3).bind fun x18 =>
    (if (!ieq x18.value.ctor (-1)) = true then
    some (false)
    else
    (if (ieq p0.op 1) = true then
    (if (ilt x18.value.n p0.n) = true then
    some (true)
    else
    (if (ieq p0.op 2) = true then
    some (ieq x18.value.n p0.n)
    else
    some (false)))
    else
    (if (ieq p0.op 2) = true then
    some (ieq x18.value.n p0.n)
    else
    some (false))))))))
def m_impl_run (n : Nat) (p0 : (List GClause)) (p1 : GValue) : Option (Int × (List GBind)) :=
    ((forL (fun k188 x189 (s182 : Unit) =>
    ((((m_impl_matched n x189.pat p1).bind fun r210 =>
    (if r210.2 = true then
    ((m_impl_GuardHolds x189.guard r210.1).bind fun r219 =>
    (if r219 = true then
    some (Ctl.ret (Ctl.ret (((k188 : Int), r210.1))))
    else
    some (Ctl.brk ())))
    else
    some (Ctl.brk ())))).bind fun (o207 : Ctl _ (Unit)) => match o207 with
    | .ret r => some r
    | .go _ => none
    | .brk s206 =>
    some (Ctl.go ()))) 0 p0 ()).bind fun (o181 : Ctl _ (Unit)) => match o181 with
    | .ret r => some r
    | .go _ => none
    | .brk s192 =>
    some (((-1), [])))
def m_spec_l1Is (p0 : (List GData)) (p1 : GType) : Option (Bool) :=
    ((m_spec_l1Arg (lenZ p0.length) p1).bind fun r5 =>
    (if r5 = true then
    some (ile 0 p1.index)
    else
    some (false)))
def m_spec_TypeValid (n : Nat) (p0 : (List GData)) (p1 : GType) : Option (Bool) :=
    ((m_spec_WorldValid n p0).bind fun r7 =>
    (if r7 = true then
    ((m_spec_l1Is p0 p1).bind fun r9 =>
    some (r9))
    else
    some (false)))
def m_spec_l4Guard (p0 : GGuard) (p1 : (List GVarType)) : Option (Bool) :=
    (if (ieq p0.op 0) = true then
    (if (ieq p0.var 0) = true then
    some (ieq p0.n 0)
    else
    some (false))
    else
    (((if (!ieq p0.op 1) = true then
    (if (!ieq p0.op 2) = true then
    some (Ctl.ret (false))
    else
    (if (ilt p0.n 0) = true then
    some (Ctl.ret (false))
    else
    (if (ilt 9 p0.n) = true then
    some (Ctl.ret (false))
    else
    some (Ctl.brk ()))))
    else
    (if (ilt p0.n 0) = true then
    some (Ctl.ret (false))
    else
    (if (ilt 9 p0.n) = true then
    some (Ctl.ret (false))
    else
    some (Ctl.brk ()))))).bind fun (o24 : Ctl _ (Unit)) => match o24 with
    | .ret r => some r
    | .go _ => none
    | .brk s23 =>
    ((m_spec_l3Find p1 p0.var).bind fun r43 =>
    (if (ile 0 r43) = true then
    ((idx p1 r43).bind fun x47 =>
    some (ieq x47.typ.data (-1)))
    else
    some (false)))))
def m_spec_l4Is (n : Nat) (p0 : (List GData)) (p1 : GType) (p2 : GClause) : Option (Bool) :=
    ((m_spec_l3Is n p0 p1 p2.pat).bind fun r9 =>
    (if r9 = true then
    ((m_spec_l3Vars n [] p0 p1 p2.pat).bind fun r11 =>
    ((m_spec_l4Guard p2.guard r11).bind fun r12 =>
    some (r12)))
    else
    some (false)))
def m_spec_ClausesValid (n : Nat) (p0 : (List GData)) (p1 : GType) (p2 : (List GClause)) : Option (Bool) :=
    ((m_spec_TypeValid n p0 p1).bind fun r24 =>
    (if (!r24) = true then
    some (false)
    else
    (if (ilt 8 (lenZ p2.length)) = true then
    some (false)
    else
    ((forL (fun k95 x96 (s89 : Unit) =>
    ((m_spec_l4Is n p0 p1 x96).bind fun r103 =>
    (if (!r103) = true then
    some (Ctl.ret (false))
    else
    some (Ctl.go ())))) 0 p2 ()).bind fun (o88 : Ctl _ (Unit)) => match o88 with
    | .ret r => some r
    | .go _ => none
    | .brk s99 =>
    some (true)))))
def m_impl_anyPattern  : Option (GPattern) :=
    some ((GPattern.mk 1 0 0 0 0 []))
def m_impl_BarePattern : Nat → GPattern → Option (GPattern)
  | 0, _ => none
  | n + 1, p0 =>
    (((if (ieq p0.op 2) = true then
    ((m_impl_anyPattern).bind fun r20 =>
    some (Ctl.ret (r20)))
    else
    (if (ieq p0.op 6) = true then
    (if (ilt 0 (lenZ p0.kids.length)) = true then
    ((idx p0.kids 0).bind fun x30 =>
    ((m_impl_BarePattern n x30).bind fun r31 =>
    some (Ctl.ret (r31))))
    else
    some (Ctl.brk ()))
    else
    some (Ctl.brk ())))).bind fun (o16 : Ctl _ (Unit)) => match o16 with
    | .ret r => some r
    | .go _ => none
    | .brk s15 =>
    ((forL (fun k102 x103 (s96 : (List GPattern)) =>
    ((m_impl_BarePattern n x103).bind fun r110 =>
    ((app s96 [r110]).bind fun x111 =>
    some (Ctl.go x111)))) 0 p0.kids []).bind fun (o95 : Ctl _ ((List GPattern))) => match o95 with
    | .ret r => some r
    | .go _ => none
    | .brk s106 =>
    some ((GPattern.mk p0.op p0.ctor p0.n p0.m p0.var s106))))
def m_impl_countSplit : Nat → GPattern → Option (Int)
  | 0, _ => none
  | n + 1, p0 =>
    (((if (ieq p0.op 5) = true then
    some (Ctl.brk 0)
    else
    some (Ctl.brk 1))).bind fun (o3 : Ctl _ (Int)) => match o3 with
    | .ret r => some r
    | .go _ => none
    | .brk s2 =>
    ((forL (fun k116 x117 (s110 : Int) =>
    (((if (ieq p0.op 5) = true then
    ((m_impl_countSplit n x117).bind fun r131 =>
    some (Ctl.brk (imin (wadd .i64 s110 r131) 401)))
    else
    ((m_impl_countSplit n x117).bind fun r133 =>
    some (Ctl.brk (imin (wmul .i64 s110 r133) 401))))).bind fun (o127 : Ctl _ (Int)) => match o127 with
    | .ret r => some r
    | .go _ => none
    | .brk s126 =>
    some (Ctl.go s126))) 0 p0.kids s2).bind fun (o109 : Ctl _ (Int)) => match o109 with
    | .ret r => some r
    | .go _ => none
    | .brk s120 =>
    some (s120)))
def m_slices_Clone_Pattern (p0 : (List GPattern)) : Option ((List GPattern)) :=
    ((app [] p0).bind fun x3 =>
    some (p0))
def m_impl_split : Nat → GPattern → Option ((List GPattern))
  | 0, _ => none
  | n + 1, p0 =>
    (if (ieq p0.op 5) = true then
    ((idx p0.kids 0).bind fun x10 =>
    ((idx p0.kids 1).bind fun x11 =>
    ((m_impl_split n x10).bind fun r12 =>
    ((m_impl_split n x11).bind fun r13 =>
    ((app r12 r13).bind fun x14 =>
    some (x14))))))
    else
    ((forL (fun k6036 x6037 (s6030 : (List GPattern)) =>
    ((m_impl_split n x6037).bind fun r6639 =>
    ((forL (fun k7139 x7140 (s7133 : (List GPattern)) =>
    ((forL (fun k7223 x7224 (s7217 : (List GPattern)) =>
    ((m_slices_Clone_Pattern x7140.kids).bind fun r7232 =>
    ((app r7232 [x7224]).bind fun x7233 =>
    ((app s7217 [(GPattern.mk x7140.op x7140.ctor x7140.n x7140.m x7140.var x7233)]).bind fun x7234 =>
    some (Ctl.go (s7217 ++ [(GPattern.mk x7140.op x7140.ctor x7140.n x7140.m x7140.var x7233)])))))) 0 r6639 s7133).bind fun (o7216 : Ctl _ ((List GPattern))) => match o7216 with
    | .ret r => some r
    | .go _ => none
    | .brk s7227 =>
    some (Ctl.go s7227))) 0 s6030 []).bind fun (o7132 : Ctl _ ((List GPattern))) => match o7132 with
    | .ret r => some r
    | .go _ => none
    | .brk s7143 =>
    some (Ctl.go s7143)))) 0 p0.kids [(GPattern.mk p0.op p0.ctor p0.n p0.m p0.var [])]).bind fun (o6029 : Ctl _ ((List GPattern))) => match o6029 with
    | .ret r => some r
    | .go _ => none
    | .brk s6040 =>
    some (s6040)))
def m_impl_parts (n : Nat) (p0 : GPattern) : Option ((List GPattern) × Bool) :=
    ((m_impl_BarePattern n p0).bind fun r1 =>
    ((m_impl_countSplit n r1).bind fun r5 =>
    (if (ilt 40 r5) = true then
    some (([], false))
    else
    ((m_impl_split n r1).bind fun r7 =>
    some ((r7, true))))))
def m_impl_depths_of (p0 : (List Int)) (p1 : GType) : Option (Int) :=
    (if (ieq p1.data (-1)) = true then
    some (1)
    else
    ((aget2 4 4 p0 p1.data p1.index).bind fun x3 =>
    some (x3)))
def m_impl_depths_ofCtor (p0 : (List Int)) (p1 : (List GData)) (p2 : GType) (p3 : Int) : Option (Int) :=
    ((m_impl_argTypes p1 p2 p3).bind fun r49 =>
    ((forL (fun k83 x84 (s77 : Int) =>
    ((m_impl_depths_of p0 x84).bind fun r92 =>
    (if (ieq r92 0) = true then
    some (Ctl.ret (0))
    else
    some (Ctl.go (imax s77 r92))))) 0 r49 0).bind fun (o76 : Ctl _ (Int)) => match o76 with
    | .ret r => some r
    | .go _ => none
    | .brk s87 =>
    some (wadd .i64 s87 1)))
def m_impl_depthsOf (n : Nat) (p0 : (List GData)) : Option ((List Int)) :=
    ((whileL (fun (s38729 : (List Int) × Bool) =>
    (if s38729.2 = true then
    ((forL (fun k43904 x43905 (s43898 : (List Int) × Bool) =>
    ((whileL (fun (s46048 : (List Int) × Bool × Int) =>
    (if (ile s46048.2.2 3) = true then
    ((m_impl_ctorsOf p0 (GType.mk (k43904 : Int) s46048.2.2)).bind fun r46272 =>
    ((forL (fun k46415 x46416 (s46409 : (List Int) × Bool) =>
    ((((m_impl_depths_ofCtor s46409.1 p0 (GType.mk (k43904 : Int) s46048.2.2) x46416).bind fun r46453 =>
    (if (ilt 0 r46453) = true then
    ((m_impl_depths_of s46409.1 (GType.mk (k43904 : Int) s46048.2.2)).bind fun r46472 =>
    (if (ieq r46472 0) = true then
    ((aset2 4 4 s46409.1 (k43904 : Int) s46048.2.2 r46453).bind fun x46474 =>
    some (Ctl.brk (x46474, true)))
    else
    ((m_impl_depths_of s46409.1 (GType.mk (k43904 : Int) s46048.2.2)).bind fun r46476 =>
    (if (ilt r46453 r46476) = true then
    ((aset2 4 4 s46409.1 (k43904 : Int) s46048.2.2 r46453).bind fun x46478 =>
    some (Ctl.brk (x46478, true)))
    else
    some (Ctl.brk (s46409.1, s46409.2))))))
    else
    some (Ctl.brk (s46409.1, s46409.2))))).bind fun (o46450 : Ctl _ ((List Int) × Bool)) => match o46450 with
    | .ret r => some r
    | .go _ => none
    | .brk s46449 =>
    some (Ctl.go (s46449.1, s46449.2)))) 0 r46272 (s46048.1, s46048.2.1)).bind fun (o46408 : Ctl _ ((List Int) × Bool)) => match o46408 with
    | .ret r => some r
    | .go _ => none
    | .brk s46419 =>
    some (Ctl.go (s46419.1, s46419.2, wadd .i64 s46048.2.2 1))))
    else
    some (Ctl.brk (s46048.1, s46048.2.1, s46048.2.2)))) n (s43898.1, s43898.2, 0)).bind fun (o46047 : Ctl _ ((List Int) × Bool × Int)) => match o46047 with
    | .ret r => some r
    | .go _ => none
    | .brk s46058 =>
    some (Ctl.go (s46058.1, s46058.2.1)))) 0 p0 (s38729.1, false)).bind fun (o43897 : Ctl _ ((List Int) × Bool)) => match o43897 with
    | .ret r => some r
    | .go _ => none
    | .brk s43908 =>
    some (Ctl.go (s43908.1, s43908.2)))
    else
    some (Ctl.brk (s38729.1, s38729.2)))) n ([0, 0, 0, 0, 0, 0, 0, 0, 0, 0, 0, 0, 0, 0, 0, 0], true)).bind fun (o38728 : Ctl _ ((List Int) × Bool)) => match o38728 with
    | .ret r => some r
    | .go _ => none
    | .brk s38739 =>
    some (s38739.1))
def m_impl_newSpaces (n : Nat) (p0 : (List GData)) : Option (Gspaces) :=
    ((m_impl_depthsOf n p0).bind fun r1 =>
    some ((Gspaces.mk p0 r1)))
def m_impl_covering (n : Nat) (p0 : (List GClause)) : Option ((List GPattern) × Bool) :=
    ((forL (fun k130 x131 (s124 : (List GPattern)) =>
    (((if (!ieq x131.guard.op 0) = true then
    some (Ctl.brk s124)
    else
    ((m_impl_parts n x131.pat).bind fun r148 =>
    (if (!r148.2) = true then
    some (Ctl.ret (Ctl.ret (([], false))))
    else
    ((app s124 r148.1).bind fun x151 =>
    some (Ctl.brk x151)))))).bind fun (o143 : Ctl _ ((List GPattern))) => match o143 with
    | .ret r => some r
    | .go _ => none
    | .brk s142 =>
    some (Ctl.go s142))) 0 p0 []).bind fun (o123 : Ctl _ ((List GPattern))) => match o123 with
    | .ret r => some r
    | .go _ => none
    | .brk s134 =>
    some ((s134, true)))
def m_slices_IndexFunc_Pattern (p0 : (List GPattern)) (p1 : (GPattern → Option Bool)) : Option (Int) :=
    ((forL (fun k68 x69 (s62 : Unit) =>
    ((p1 x69).bind fun r76 =>
    (if r76 = true then
    some (Ctl.ret ((k68 : Int)))
    else
    some (Ctl.go ())))) 0 p0 ()).bind fun (o61 : Ctl _ (Unit)) => match o61 with
    | .ret r => some r
    | .go _ => none
    | .brk s72 =>
    some ((-1)))
def m_slices_DeleteFunc_Pattern (n : Nat) (p0 : (List GPattern)) (p1 : (GPattern → Option Bool)) : Option ((List GPattern)) :=
    ((m_slices_IndexFunc_Pattern p0 p1).bind fun r1 =>
    (if (ieq r1 (-1)) = true then
    some (p0)
    else
    ((whileL (fun (s113 : (List GPattern) × Int × Int) =>
    (if (ilt s113.2.2 (lenZ s113.1.length)) = true then
    ((((idx s113.1 s113.2.2).bind fun x136 =>
    ((p1 x136).bind fun r137 =>
    (if (!r137) = true then
    ((idx s113.1 s113.2.1).bind fun x139 =>
    ((setI s113.1 s113.2.1 x136).bind fun x140 =>
    some (Ctl.brk (x140, wadd .i64 s113.2.1 1))))
    else
    some (Ctl.brk (s113.1, s113.2.1)))))).bind fun (o133 : Ctl _ ((List GPattern) × Int)) => match o133 with
    | .ret r => some r
    | .go _ => none
    | .brk s132 =>
    some (Ctl.go (s132.1, s132.2, wadd .i64 s113.2.2 1)))
    else
    some (Ctl.brk (s113.1, s113.2.1, s113.2.2)))) n (p0, r1, wadd .i64 r1 1)).bind fun (o112 : Ctl _ ((List GPattern) × Int × Int)) => match o112 with
    | .ret r => some r
    | .go _ => none
    | .brk s123 =>
    ((takeI s123.1 s123.2.1).bind fun x142 =>
    some (x142)))))
def m_impl_kidTypes (p0 : (List GData)) (p1 : GType) (p2 : GPattern) : Option ((List GType)) :=
    ((m_impl_shape p0 p1 p2).bind fun r1 =>
    some (r1.1))
def m_impl_spaces_empty : Nat → Gspaces → GType → GPattern → Option (Bool)
  | 0, _, _, _ => none
  | n + 1, p0, p1, p2 =>
    (((if (ieq p2.op 1) = true then
    some (Ctl.brk (ieq p2.op 1))
    else
    some (Ctl.brk (ieq p2.op 2)))).bind fun (o29 : Ctl _ (Bool)) => match o29 with
    | .ret r => some r
    | .go _ => none
    | .brk s28 =>
    (if s28 = true then
    ((m_impl_depths_of p0.d p1).bind fun r34 =>
    some (ieq r34 0))
    else
    (if (ieq p2.op 5) = true then
    ((idx p2.kids 0).bind fun x45 =>
    ((m_impl_spaces_empty n p0 p1 x45).bind fun r46 =>
    (if r46 = true then
    ((idx p2.kids 1).bind fun x48 =>
    ((m_impl_spaces_empty n p0 p1 x48).bind fun r49 =>
    some (r49)))
    else
    some (false))))
    else
    ((m_impl_kidTypes p0.w p1 p2).bind fun r100 =>
    ((forL (fun k133 x134 (s127 : Unit) =>
    ((idx p2.kids (k133 : Int)).bind fun x142 =>
    ((m_impl_spaces_empty n p0 x134 x142).bind fun r143 =>
    (if r143 = true then
    some (Ctl.ret (true))
    else
    some (Ctl.go ()))))) 0 r100 ()).bind fun (o126 : Ctl _ (Unit)) => match o126 with
    | .ret r => some r
    | .go _ => none
    | .brk s137 =>
    some (false))))))
def m_impl_spaces_filled_1 (n : Nat) (p0 : GPattern) (q0 : Gspaces) (q1 : GType) : Option (Bool) :=
    ((m_impl_spaces_empty n q0 q1 p0).bind fun r1 =>
    some (r1))
def m_impl_spaces_filled (n : Nat) (p0 : Gspaces) (p1 : GType) (p2 : (List GPattern)) : Option ((List GPattern)) :=
    ((m_slices_Clone_Pattern p2).bind fun r1 =>
    ((m_slices_DeleteFunc_Pattern n r1 (fun a0 => m_impl_spaces_filled_1 n a0 p0 p1)).bind fun r2 =>
    some (r2)))
def m_impl_ranges (n : Nat) (p0 : (List Int)) : Option ((List GPattern)) :=
    ((whileL (fun (s88 : (List GPattern) × Int) =>
    (if (ilt s88.2 (lenZ p0.length)) = true then
    ((((idx p0 s88.2).bind fun x109 =>
    ((idx p0 (wadd .i64 s88.2 1)).bind fun x110 =>
    (if (ile x109 x110) = true then
    ((app s88.1 [(GPattern.mk 3 0 x109 x110 0 [])]).bind fun x112 =>
    some (Ctl.brk (s88.1 ++ [(GPattern.mk 3 0 x109 x110 0 [])])))
    else
    some (Ctl.brk s88.1))))).bind fun (o106 : Ctl _ ((List GPattern))) => match o106 with
    | .ret r => some r
    | .go _ => none
    | .brk s105 =>
    some (Ctl.go (s105, wadd .i64 s88.2 2)))
    else
    some (Ctl.brk (s88.1, s88.2)))) n ([], 0)).bind fun (o87 : Ctl _ ((List GPattern) × Int)) => match o87 with
    | .ret r => some r
    | .go _ => none
    | .brk s98 =>
    some (s98.1))
def m_impl_numbers (p0 : GPattern) : Option (Int × Int) :=
    (if (ieq p0.op 1) = true then
    some ((0, 9))
    else
    some ((p0.n, p0.m)))
def m_impl_spaces_whole (p0 : Gspaces) (p1 : GType) (p2 : Int) : Option (GPattern) :=
    ((m_impl_argTypes p0.w p1 p2).bind fun r39 =>
    ((forL (fun k65 x66 (s59 : (List GPattern)) =>
    ((m_impl_anyPattern).bind fun r73 =>
    ((app s59 [r73]).bind fun x74 =>
    some (Ctl.go x74)))) 0 r39 []).bind fun (o58 : Ctl _ ((List GPattern))) => match o58 with
    | .ret r => some r
    | .go _ => none
    | .brk s69 =>
    some ((GPattern.mk 4 p2 0 0 0 s69))))
def m_slices_Grow_Pattern (p1 : Int) : Option ((List GPattern)) :=
    (if (ilt p1 0) = true then
    none
    else
    (((if (ilt 0 (wsub .i64 p1 (wsub .i64 0 (lenZ 0)))) = true then
    ((chk (ieq 0 0)).bind fun x11 =>
    ((mkS (wsub .i64 p1 (wsub .i64 0 (lenZ 0))) (GPattern.mk 0 0 0 0 0 [])).bind fun x12 =>
    some (Ctl.brk ())))
    else
    some (Ctl.brk ()))).bind fun (o7 : Ctl _ (Unit)) => match o7 with
    | .ret r => some r
    | .go _ => none
    | .brk s6 =>
    some ([])))
def m_slices_Concat_Pattern (p0 : (List (List GPattern))) : Option ((List GPattern)) :=
    ((forL (fun k50 x51 (s44 : Int) =>
    (if (ilt (wadd .i64 s44 (lenZ x51.length)) 0) = true then
    none
    else
    some (Ctl.go (wadd .i64 s44 (lenZ x51.length))))) 0 p0 0).bind fun (o43 : Ctl _ (Int)) => match o43 with
    | .ret r => some r
    | .go _ => none
    | .brk s54 =>
    ((m_slices_Grow_Pattern s54).bind fun r57 =>
    ((forL (fun k107 x108 (s101 : (List GPattern)) =>
    ((app s101 x108).bind fun x113 =>
    some (Ctl.go x113))) 0 p0 r57).bind fun (o100 : Ctl _ ((List GPattern))) => match o100 with
    | .ret r => some r
    | .go _ => none
    | .brk s111 =>
    some (s111))))
def m_impl_spaces_meet : Nat → Gspaces → GType → GPattern → GPattern → Option (GPattern × Bool)
  | 0, _, _, _, _ => none
  | n + 1, p0, p1, p2, p3 =>
    (if (ieq p2.op 1) = true then
    some ((p3, true))
    else
    (if (ieq p3.op 1) = true then
    some ((p2, true))
    else
    (if (ieq p2.op 3) = true then
    ((m_impl_ranges n [imax p2.n p3.n, imin p2.m p3.m]).bind fun r13 =>
    (if (ieq (lenZ r13.length) 0) = true then
    some (((GPattern.mk 0 0 0 0 0 []), false))
    else
    ((idx r13 0).bind fun x16 =>
    some ((x16, true)))))
    else
    (if (!ieq p2.ctor p3.ctor) = true then
    some (((GPattern.mk 0 0 0 0 0 []), false))
    else
    ((m_impl_argTypes p0.w p1 p2.ctor).bind fun r85 =>
    ((forL (fun k131 x132 (s125 : (List GPattern)) =>
    ((idx p2.kids (k131 : Int)).bind fun x143 =>
    ((idx p3.kids (k131 : Int)).bind fun x144 =>
    ((m_impl_spaces_meet n p0 x132 x143 x144).bind fun r145 =>
    (if (!r145.2) = true then
    some (Ctl.ret (((GPattern.mk 0 0 0 0 0 []), false)))
    else
    ((app s125 [r145.1]).bind fun x148 =>
    some (Ctl.go x148))))))) 0 r85 []).bind fun (o124 : Ctl _ ((List GPattern))) => match o124 with
    | .ret r => some r
    | .go _ => none
    | .brk s135 =>
    some (((GPattern.mk 4 p2.ctor 0 0 0 s135), true))))))))
def m_impl_spaces_minus : Nat → Gspaces → GType → GPattern → GPattern → Option ((List GPattern))
  | 0, _, _, _, _ => none
  | n + 1, p0, p1, p2, p3 =>
    (if (ieq p3.op 1) = true then
    some ([])
    else
    (if (ieq p3.op 3) = true then
    ((m_impl_numbers p2).bind fun r119 =>
    ((m_impl_ranges n [r119.1, imin r119.2 (wsub .i64 p3.n 1), imax r119.1 (wadd .i64 p3.m 1), r119.2]).bind fun r120 =>
    some (r120)))
    else
    (if (ieq p2.op 1) = true then
    ((m_impl_ctorsOf p0.w p1).bind fun r178 =>
    ((forL (fun k216 x217 (s210 : (List GPattern)) =>
    ((m_impl_spaces_whole p0 p1 x217).bind fun r226 =>
    ((m_impl_spaces_minus n p0 p1 r226 p3).bind fun r227 =>
    ((app s210 r227).bind fun x228 =>
    some (Ctl.go x228))))) 0 r178 []).bind fun (o209 : Ctl _ ((List GPattern))) => match o209 with
    | .ret r => some r
    | .go _ => none
    | .brk s220 =>
    some (s220)))
    else
    (if (!ieq p2.ctor p3.ctor) = true then
    some ([p2])
    else
    ((m_impl_argTypes p0.w p1 p2.ctor).bind fun r1105 =>
    ((forL (fun k1761 x1762 (s1755 : (List GPattern) × (List GPattern)) =>
    ((idx p2.kids (k1761 : Int)).bind fun x1921 =>
    ((idx p3.kids (k1761 : Int)).bind fun x1922 =>
    ((m_impl_spaces_minus n p0 x1762 x1921 x1922).bind fun r1923 =>
    ((forL (fun k1957 x1958 (s1951 : (List GPattern)) =>
    ((dropI p2.kids (wadd .i64 (k1761 : Int) 1)).bind fun x1966 =>
    ((m_slices_Concat_Pattern [s1755.2, [x1958], x1966]).bind fun r1967 =>
    ((app s1951 [(GPattern.mk 4 p2.ctor 0 0 0 r1967)]).bind fun x1968 =>
    some (Ctl.go x1968))))) 0 r1923 s1755.1).bind fun (o1950 : Ctl _ ((List GPattern))) => match o1950 with
    | .ret r => some r
    | .go _ => none
    | .brk s1961 =>
    ((m_impl_spaces_meet n p0 x1762 x1921 x1922).bind fun r1970 =>
    (if (!r1970.2) = true then
    some (Ctl.brk (s1961, s1755.2))
    else
    ((app s1755.2 [r1970.1]).bind fun x1973 =>
    some (Ctl.go (s1961, x1973)))))))))) 0 r1105 ([], [])).bind fun (o1754 : Ctl _ ((List GPattern) × (List GPattern))) => match o1754 with
    | .ret r => some r
    | .go _ => none
    | .brk s1765 =>
    some (s1765.1)))))))
def m_impl_spaces_without (n : Nat) (p0 : Gspaces) (p1 : GType) (p2 : (List GPattern)) (p3 : (List GPattern)) : Option ((List GPattern) × Bool) :=
    ((m_impl_spaces_filled n p0 p1 p2).bind fun r1 =>
    ((forL (fun k871 x872 (s865 : (List GPattern)) =>
    ((forL (fun k1028 x1029 (s1022 : (List GPattern)) =>
    ((m_impl_spaces_minus n p0 p1 x1029 x872).bind fun r1036 =>
    ((app s1022 r1036).bind fun x1037 =>
    some (Ctl.go x1037)))) 0 s865 []).bind fun (o1021 : Ctl _ ((List GPattern))) => match o1021 with
    | .ret r => some r
    | .go _ => none
    | .brk s1032 =>
    ((m_impl_spaces_filled n p0 p1 s1032).bind fun r1039 =>
    (if (ilt 400 (lenZ r1039.length)) = true then
    some (Ctl.ret (([], false)))
    else
    some (Ctl.go r1039))))) 0 p3 r1).bind fun (o864 : Ctl _ ((List GPattern))) => match o864 with
    | .ret r => some r
    | .go _ => none
    | .brk s875 =>
    some ((s875, true))))
def m_slices_ContainsFunc_Pattern (p0 : (List GPattern)) (p1 : (GPattern → Option Bool)) : Option (Bool) :=
    ((m_slices_IndexFunc_Pattern p0 p1).bind fun r1 =>
    some (ile 0 r1))
def m_impl_patternOk (n : Nat) (p0 : (List GData)) (p1 : GType) (p2 : GPattern) : Option (Bool) :=
    ((m_impl_patternVars n p0 p1 p2).bind fun r1 =>
    some (r1.2))
def m_impl_spaces_result_1 (n : Nat) (p0 : GPattern) (q0 : Gspaces) (q1 : GType) : Option (Bool) :=
    ((m_impl_patternOk n q0.w q1 p0).bind fun r1 =>
    some ((!r1)))
def m_impl_ownPattern : Nat → GPattern → Option (GPattern)
  | 0, _ => none
  | n + 1, p0 =>
    ((forL (fun k70 x71 (s64 : (List GPattern)) =>
    ((m_impl_ownPattern n x71).bind fun r78 =>
    ((app s64 [r78]).bind fun x79 =>
    some (Ctl.go x79)))) 0 p0.kids []).bind fun (o63 : Ctl _ ((List GPattern))) => match o63 with
    | .ret r => some r
    | .go _ => none
    | .brk s74 =>
    some ((GPattern.mk p0.op p0.ctor p0.n p0.m p0.var s74)))
def m_impl_ownPatterns (n : Nat) (p0 : (List GPattern)) : Option ((List GPattern)) :=
    ((forL (fun k70 x71 (s64 : (List GPattern)) =>
    ((m_impl_ownPattern n x71).bind fun r78 =>
    ((app s64 [r78]).bind fun x79 =>
    some (Ctl.go x79)))) 0 p0 []).bind fun (o63 : Ctl _ ((List GPattern))) => match o63 with
    | .ret r => some r
    | .go _ => none
    | .brk s74 =>
    some (s74))
def m_impl_spaces_result (n : Nat) (p0 : Gspaces) (p1 : GType) (p2 : (List GPattern)) (p3 : Bool) : Option ((List GPattern) × Bool) :=
    (if (!p3) = true then
    some (([], false))
    else
    ((m_slices_ContainsFunc_Pattern p2 (fun a0 => m_impl_spaces_result_1 n a0 p0 p1)).bind fun r20 =>
    (if r20 = true then
    some (([], false))
    else
    ((m_impl_ownPatterns n p2).bind fun r22 =>
    some ((r22, true))))))
def m_spec_l5Any  : Option (GPattern) :=
    some ((GPattern.mk 1 0 0 0 0 []))
def m_spec_l3Mutate (p0 : Gl17Rd) (p1 : GPattern) : Option (GPattern × Gl17Rd) :=
    ((app [] p1.kids).bind fun x1 =>
    ((((m_spec_l17Rd_pick p0 30).bind fun r26 =>
    (if (ieq r26.1 0) = true then
    ((m_spec_l17Rd_num r26.2 [0, 7, 1, 2, 5]).bind fun r28 =>
    some (Ctl.brk (r28.2, r28.1, p1.ctor, p1.n, p1.var, p1.kids)))
    else
    (if (ieq r26.1 1) = true then
    ((m_spec_l17Rd_num r26.2 [6, (-1), 1]).bind fun r31 =>
    some (Ctl.brk (r31.2, p1.op, p1.ctor, p1.n, r31.1, p1.kids)))
    else
    (if (ieq r26.1 2) = true then
    ((m_spec_l17Rd_num r26.2 [9, (-1), 1]).bind fun r34 =>
    some (Ctl.brk (r34.2, p1.op, r34.1, p1.n, p1.var, p1.kids)))
    else
    (if (ieq r26.1 3) = true then
    ((app p1.kids [(GPattern.mk 2 0 0 0 0 [])]).bind fun x37 =>
    some (Ctl.brk (r26.2, p1.op, p1.ctor, p1.n, p1.var, (p1.kids ++ [(GPattern.mk 2 0 0 0 0 [])]))))
    else
    (if (ieq r26.1 4) = true then
    (if (ilt 0 (lenZ p1.kids.length)) = true then
    ((idx p1.kids 0).bind fun x40 =>
    ((setI p1.kids 0 (GPattern.mk 2 0 0 0 0 [])).bind fun x41 =>
    some (Ctl.brk (r26.2, p1.op, p1.ctor, p1.n, p1.var, x41))))
    else
    some (Ctl.brk (r26.2, p1.op, p1.ctor, p1.n, p1.var, p1.kids)))
    else
    (if (ieq r26.1 5) = true then
    ((m_spec_l17Rd_num r26.2 [10, (-1), 5]).bind fun r43 =>
    some (Ctl.brk (r43.2, p1.op, p1.ctor, r43.1, p1.var, p1.kids)))
    else
    some (Ctl.brk (r26.2, p1.op, p1.ctor, p1.n, p1.var, p1.kids)))))))))).bind fun (o23 : Ctl _ (Gl17Rd × Int × Int × Int × Int × (List GPattern))) => match o23 with
    | .ret r => some r
    | .go _ => none
    | .brk s22 =>
    some (((GPattern.mk s22.2.1 s22.2.2.1 s22.2.2.2.1 p1.m s22.2.2.2.2.1 s22.2.2.2.2.2), s22.1))))
def m_spec_l4Mutate (n : Nat) (p0 : Gl17Rd) (p1 : (List GClause)) : Option ((List GClause) × Gl17Rd) :=
    ((app [] p1).bind fun x1 =>
    ((((m_spec_l17Rd_pick p0 24).bind fun r49 =>
    (if (ieq r49.1 0) = true then
    (if (ilt 0 (lenZ p1.length)) = true then
    ((m_spec_l17Rd_num r49.2 [1, 2, 3, (-1)]).bind fun r52 =>
    ((m_spec_l17Rd_num r52.2 [0, 5, 9]).bind fun r53 =>
    ((m_spec_l17Rd_num r53.2 [3, 10, (-1)]).bind fun r54 =>
    ((idx p1 0).bind fun x55 =>
    ((setI p1 0 (GClause.mk x55.pat (GGuard.mk r52.1 r53.1 r54.1))).bind fun x56 =>
    some (Ctl.brk (r54.2, x56)))))))
    else
    some (Ctl.brk (r49.2, p1)))
    else
    (if (ieq r49.1 1) = true then
    (if (ilt 0 (lenZ p1.length)) = true then
    ((idx p1 0).bind fun x62 =>
    ((m_spec_l3Mutate r49.2 x62.pat).bind fun r63 =>
    ((m_spec_l3Mutate r63.2 r63.1).bind fun r64 =>
    ((setI p1 0 (GClause.mk r64.1 x62.guard)).bind fun x65 =>
    some (Ctl.brk (r64.2, x65))))))
    else
    some (Ctl.brk (r49.2, p1)))
    else
    (if (ieq r49.1 2) = true then
    ((whileL (fun (s77 : (List GClause)) =>
    (if (ile (lenZ s77.length) 8) = true then
    ((app s77 [(GClause.mk (GPattern.mk 1 0 0 0 0 []) (GGuard.mk 0 0 0))]).bind fun x90 =>
    some (Ctl.go (s77 ++ [(GClause.mk (GPattern.mk 1 0 0 0 0 []) (GGuard.mk 0 0 0))])))
    else
    some (Ctl.brk s77))) n p1).bind fun (o76 : Ctl _ ((List GClause))) => match o76 with
    | .ret r => some r
    | .go _ => none
    | .brk s87 =>
    some (Ctl.brk (r49.2, s87)))
    else
    some (Ctl.brk (r49.2, p1))))))).bind fun (o46 : Ctl _ (Gl17Rd × (List GClause))) => match o46 with
    | .ret r => some r
    | .go _ => none
    | .brk s45 =>
    some ((s45.2, s45.1))))
def m_spec_DrawMissingPatterns (n : Nat) (p0 : (List Int)) : Option ((List GData) × GType × (List GClause)) :=
    ((m_spec_l17Open p0).bind fun r1 =>
    ((m_spec_l4Typed n r1).bind fun r2 =>
    (((if (ilt 0 (lenZ r2.2.2.1.length)) = true then
    ((m_spec_l17Rd_pick r2.2.2.2.2 4).bind fun r35 =>
    (if (ieq r35.1 0) = true then
    ((m_spec_l5Any).bind fun r37 =>
    ((app r2.2.2.1 [(GClause.mk r37 (GGuard.mk 0 0 0))]).bind fun x38 =>
    some (Ctl.brk (r35.2, x38))))
    else
    some (Ctl.brk (r35.2, r2.2.2.1))))
    else
    some (Ctl.brk (r2.2.2.2.2, r2.2.2.1)))).bind fun (o21 : Ctl _ (Gl17Rd × (List GClause))) => match o21 with
    | .ret r => some r
    | .go _ => none
    | .brk s20 =>
    ((m_spec_l4Mutate n s20.1 s20.2).bind fun r41 =>
    some ((r2.1, r2.2.1, r41.1))))))
def m_spec_DrawExhaustive (n : Nat) (p0 : (List Int)) : Option ((List GData) × GType × (List GClause)) :=
    ((m_spec_DrawMissingPatterns n p0).bind fun r1 =>
    some ((r1.1, r1.2.1, r1.2.2)))
def m_impl_MissingPatterns (n : Nat) (p0 : (List GData)) (p1 : GType) (p2 : (List GClause)) : Option ((List GPattern) × Bool) :=
    ((m_impl_ClausesValid n p0 p1 p2).bind fun r4 =>
    (if (!r4) = true then
    some (([], false))
    else
    ((m_impl_covering n p2).bind fun r6 =>
    (if (!r6.2) = true then
    some (([], false))
    else
    ((m_impl_newSpaces n p0).bind fun r9 =>
    ((m_impl_anyPattern).bind fun r10 =>
    ((m_impl_spaces_without n r9 p1 [r10] r6.1).bind fun r11 =>
    ((m_impl_spaces_result n r9 p1 r11.1 r11.2).bind fun r12 =>
    some ((r12.1, r12.2))))))))))
def m_impl_Exhaustive (n : Nat) (p0 : (List GData)) (p1 : GType) (p2 : (List GClause)) : Option (Bool × Bool) :=
    ((m_impl_MissingPatterns n p0 p1 p2).bind fun r1 =>
    (if r1.2 = true then
    some ((ieq (lenZ r1.1.length) 0, r1.2))
    else
    some ((false, r1.2))))
def m_spec_l3Copy : Nat → GPattern → Option (GPattern)
  | 0, _ => none
  | n + 1, p0 =>
    ((forL (fun k70 x71 (s64 : (List GPattern)) =>
    ((m_spec_l3Copy n x71).bind fun r78 =>
    ((app s64 [r78]).bind fun x79 =>
    some (Ctl.go x79)))) 0 p0.kids []).bind fun (o63 : Ctl _ ((List GPattern))) => match o63 with
    | .ret r => some r
    | .go _ => none
    | .brk s74 =>
    some ((GPattern.mk p0.op p0.ctor p0.n p0.m p0.var s74)))
def m_spec_l3All (n : Nat) (p0 : (List GPattern)) : Option ((List GPattern)) :=
    ((forL (fun k70 x71 (s64 : (List GPattern)) =>
    ((m_spec_l3Copy n x71).bind fun r78 =>
    ((app s64 [r78]).bind fun x79 =>
    some (Ctl.go x79)))) 0 p0 []).bind fun (o63 : Ctl _ ((List GPattern))) => match o63 with
    | .ret r => some r
    | .go _ => none
    | .brk s74 =>
    some (s74))
def m_spec_l5Right (n : Nat) (p0 : (List GData)) (p1 : GType) (p2 : (List GPattern)) (p3 : Bool) : Option ((List GPattern) × Bool) :=
    ((forL (fun k68 x69 (s62 : Unit) =>
    ((m_spec_l3Is n p0 p1 x69).bind fun r76 =>
    (if (!r76) = true then
    some (Ctl.ret (([], false)))
    else
    some (Ctl.go ())))) 0 p2 ()).bind fun (o61 : Ctl _ (Unit)) => match o61 with
    | .ret r => some r
    | .go _ => none
    | .brk s72 =>
    ((m_spec_l3All n p2).bind fun r79 =>
    some ((r79, p3))))
def m_spec_l3Tuples (p0 : (List (List GPattern))) : Option ((List (List GPattern))) :=
    ((forL (fun k12480 x12481 (s12474 : (List (List GPattern))) =>
    ((forL (fun k13906 x13907 (s13900 : (List (List GPattern))) =>
    (if (ile (lenZ s13900.length) 400) = true then
    ((forL (fun k14008 x14009 (s14002 : (List (List GPattern))) =>
    (if (ile (lenZ s14002.length) 400) = true then
    ((app [] x13907).bind fun x14018 =>
    ((app x13907 [x14009]).bind fun x14019 =>
    ((app s14002 [x14019]).bind fun x14020 =>
    some (Ctl.go (s14002 ++ [x14019])))))
    else
    some (Ctl.brk s14002))) 0 x12481 s13900).bind fun (o14001 : Ctl _ ((List (List GPattern)))) => match o14001 with
    | .ret r => some r
    | .go _ => none
    | .brk s14012 =>
    some (Ctl.go s14012))
    else
    some (Ctl.brk s13900))) 0 s12474 []).bind fun (o13899 : Ctl _ ((List (List GPattern)))) => match o13899 with
    | .ret r => some r
    | .go _ => none
    | .brk s13910 =>
    some (Ctl.go s13910))) 0 p0 [[]]).bind fun (o12473 : Ctl _ ((List (List GPattern)))) => match o12473 with
    | .ret r => some r
    | .go _ => none
    | .brk s12484 =>
    some (s12484))
def m_spec_l3Split : Nat → GPattern → Option ((List GPattern))
  | 0, _ => none
  | n + 1, p0 =>
    (if (ieq p0.op 5) = true then
    ((idx p0.kids 0).bind fun x14 =>
    ((idx p0.kids 1).bind fun x15 =>
    ((m_spec_l3Split n x14).bind fun r16 =>
    ((m_spec_l3Split n x15).bind fun r17 =>
    ((app r16 r17).bind fun x18 =>
    (if (ilt 401 (lenZ x18.length)) = true then
    ((takeI x18 401).bind fun x22 =>
    some (x22))
    else
    some (x18)))))))
    else
    ((forL (fun k94 x95 (s88 : (List (List GPattern))) =>
    ((m_spec_l3Split n x95).bind fun r102 =>
    ((app s88 [r102]).bind fun x103 =>
    some (Ctl.go (s88 ++ [r102]))))) 0 p0.kids []).bind fun (o87 : Ctl _ ((List (List GPattern)))) => match o87 with
    | .ret r => some r
    | .go _ => none
    | .brk s98 =>
    ((m_spec_l3Tuples s98).bind fun r105 =>
    ((forL (fun k155 x156 (s149 : (List GPattern)) =>
    ((app s149 [(GPattern.mk p0.op p0.ctor p0.n p0.m p0.var x156)]).bind fun x161 =>
    some (Ctl.go x161))) 0 r105 []).bind fun (o148 : Ctl _ ((List GPattern))) => match o148 with
    | .ret r => some r
    | .go _ => none
    | .brk s159 =>
    some (s159)))))
def m_spec_BarePattern : Nat → GPattern → Option (GPattern)
  | 0, _ => none
  | n + 1, p0 =>
    (((if (ieq p0.op 2) = true then
    some (Ctl.ret ((GPattern.mk 1 0 0 0 0 [])))
    else
    (if (ieq p0.op 6) = true then
    (if (ilt 0 (lenZ p0.kids.length)) = true then
    ((idx p0.kids 0).bind fun x14 =>
    ((m_spec_BarePattern n x14).bind fun r15 =>
    some (Ctl.ret (r15))))
    else
    some (Ctl.brk ()))
    else
    some (Ctl.brk ())))).bind fun (o8 : Ctl _ (Unit)) => match o8 with
    | .ret r => some r
    | .go _ => none
    | .brk s7 =>
    ((forL (fun k86 x87 (s80 : (List GPattern)) =>
    ((m_spec_BarePattern n x87).bind fun r94 =>
    ((app s80 [r94]).bind fun x95 =>
    some (Ctl.go x95)))) 0 p0.kids []).bind fun (o79 : Ctl _ ((List GPattern))) => match o79 with
    | .ret r => some r
    | .go _ => none
    | .brk s90 =>
    some ((GPattern.mk p0.op p0.ctor p0.n p0.m p0.var s90))))
def m_spec_l5Parts (n : Nat) (p0 : GPattern) : Option ((List GPattern)) :=
    ((m_spec_BarePattern n p0).bind fun r1 =>
    ((m_spec_l3Split n r1).bind fun r2 =>
    some (r2)))
def m_spec_l6Parts (n : Nat) (p0 : (List GClause)) (p1 : Int) : Option ((List GPattern) × Bool) :=
    ((whileL (fun (s138 : (List GPattern) × Int) =>
    (if (ilt s138.2 p1) = true then
    ((((idx p0 s138.2).bind fun x166 =>
    (if (!ieq x166.guard.op 0) = true then
    some (Ctl.brk s138.1)
    else
    ((m_spec_l5Parts n x166.pat).bind fun r168 =>
    (if (ilt 40 (lenZ r168.length)) = true then
    some (Ctl.ret (Ctl.ret (([], false))))
    else
    ((app s138.1 r168).bind fun x171 =>
    some (Ctl.brk x171))))))).bind fun (o161 : Ctl _ ((List GPattern))) => match o161 with
    | .ret r => some r
    | .go _ => none
    | .brk s160 =>
    some (Ctl.go (s160, wadd .i64 s138.2 1)))
    else
    some (Ctl.brk (s138.1, s138.2)))) n ([], 0)).bind fun (o137 : Ctl _ ((List GPattern) × Int)) => match o137 with
    | .ret r => some r
    | .go _ => none
    | .brk s148 =>
    some ((s148.1, true)))
def m_spec_l5Alive : Nat → (List GData) → (List Int) → GType → GPattern → Option (Bool)
  | 0, _, _, _, _ => none
  | n + 1, p0, p1, p2, p3 =>
    (if (ieq p3.op 1) = true then
    ((m_spec_l1Depth p1 p2).bind fun r5 =>
    some (ilt 0 r5))
    else
    (if (ieq p3.op 3) = true then
    some (true)
    else
    ((m_spec_l1Args p0 p2 p3.ctor).bind fun r9 =>
    ((forL (fun k87 x88 (s81 : Unit) =>
    ((idx p3.kids (k87 : Int)).bind fun x96 =>
    ((m_spec_l5Alive n p0 p1 x88 x96).bind fun r97 =>
    (if (!r97) = true then
    some (Ctl.ret (false))
    else
    some (Ctl.go ()))))) 0 r9 ()).bind fun (o80 : Ctl _ (Unit)) => match o80 with
    | .ret r => some r
    | .go _ => none
    | .brk s91 =>
    some (true)))))
def m_spec_l5Keep (n : Nat) (p0 : (List GData)) (p1 : (List Int)) (p2 : GType) (p3 : (List GPattern)) : Option ((List GPattern)) :=
    ((forL (fun k100 x101 (s94 : (List GPattern)) =>
    ((((m_spec_l5Alive n p0 p1 p2 x101).bind fun r113 =>
    (if r113 = true then
    ((app s94 [x101]).bind fun x115 =>
    some (Ctl.brk x115))
    else
    some (Ctl.brk s94)))).bind fun (o110 : Ctl _ ((List GPattern))) => match o110 with
    | .ret r => some r
    | .go _ => none
    | .brk s109 =>
    some (Ctl.go s109))) 0 p3 []).bind fun (o93 : Ctl _ ((List GPattern))) => match o93 with
    | .ret r => some r
    | .go _ => none
    | .brk s104 =>
    some (s104))
def m_spec_l5Ranges (p0 : GPattern) (p1 : GPattern) : Option ((List GPattern)) :=
    (((if (ilt (wsub .i64 p1.n 1) p0.m) = true then
    some (Ctl.brk (wsub .i64 p1.n 1))
    else
    some (Ctl.brk p0.m))).bind fun (o3 : Ctl _ (Int)) => match o3 with
    | .ret r => some r
    | .go _ => none
    | .brk s2 =>
    (((if (ile p0.n s2) = true then
    ((app [] [(GPattern.mk 3 0 p0.n s2 0 [])]).bind fun x14 =>
    some (Ctl.brk [(GPattern.mk 3 0 p0.n s2 0 [])]))
    else
    some (Ctl.brk []))).bind fun (o10 : Ctl _ ((List GPattern))) => match o10 with
    | .ret r => some r
    | .go _ => none
    | .brk s9 =>
    (((if (ilt p0.n (wadd .i64 p1.m 1)) = true then
    some (Ctl.brk (wadd .i64 p1.m 1))
    else
    some (Ctl.brk p0.n))).bind fun (o17 : Ctl _ (Int)) => match o17 with
    | .ret r => some r
    | .go _ => none
    | .brk s16 =>
    (((if (ile s16 p0.m) = true then
    ((app s9 [(GPattern.mk 3 0 s16 p0.m 0 [])]).bind fun x28 =>
    some (Ctl.brk (s9 ++ [(GPattern.mk 3 0 s16 p0.m 0 [])])))
    else
    some (Ctl.brk s9))).bind fun (o24 : Ctl _ ((List GPattern))) => match o24 with
    | .ret r => some r
    | .go _ => none
    | .brk s23 =>
    some (s23)))))
def m_spec_l5Meet : Nat → GPattern → GPattern → Option (GPattern × Bool)
  | 0, _, _ => none
  | n + 1, p0, p1 =>
    (if (ieq p0.op 1) = true then
    some ((p1, true))
    else
    (if (ieq p1.op 1) = true then
    some ((p0, true))
    else
    (if (ieq p0.op 3) = true then
    (((if (ilt p0.n p1.n) = true then
    some (Ctl.brk p1.n)
    else
    some (Ctl.brk p0.n))).bind fun (o22 : Ctl _ (Int)) => match o22 with
    | .ret r => some r
    | .go _ => none
    | .brk s21 =>
    (((if (ilt p1.m p0.m) = true then
    some (Ctl.brk p1.m)
    else
    some (Ctl.brk p0.m))).bind fun (o28 : Ctl _ (Int)) => match o28 with
    | .ret r => some r
    | .go _ => none
    | .brk s27 =>
    some (((GPattern.mk 3 0 s21 s27 0 []), ile s21 s27))))
    else
    (if (!ieq p0.ctor p1.ctor) = true then
    some (((GPattern.mk 0 0 0 0 0 []), false))
    else
    ((forL (fun k132 x133 (s126 : (List GPattern)) =>
    ((idx p1.kids (k132 : Int)).bind fun x143 =>
    ((m_spec_l5Meet n x133 x143).bind fun r144 =>
    (if (!r144.2) = true then
    some (Ctl.ret (((GPattern.mk 0 0 0 0 0 []), false)))
    else
    ((app s126 [r144.1]).bind fun x147 =>
    some (Ctl.go x147)))))) 0 p0.kids []).bind fun (o125 : Ctl _ ((List GPattern))) => match o125 with
    | .ret r => some r
    | .go _ => none
    | .brk s136 =>
    some (((GPattern.mk 4 p0.ctor 0 0 0 s136), true)))))))
def m_spec_l5Wide (p0 : (List GData)) (p1 : GType) (p2 : Int) : Option (GPattern) :=
    ((m_spec_l1Args p0 p1 p2).bind fun r1 =>
    ((forL (fun k63 x64 (s57 : (List GPattern)) =>
    ((m_spec_l5Any).bind fun r71 =>
    ((app s57 [r71]).bind fun x72 =>
    some (Ctl.go x72)))) 0 r1 []).bind fun (o56 : Ctl _ ((List GPattern))) => match o56 with
    | .ret r => some r
    | .go _ => none
    | .brk s67 =>
    some ((GPattern.mk 4 p2 0 0 0 s67))))
mutual
def m_spec_l5Minus : Nat → (List GData) → GType → GPattern → GPattern → Option ((List GPattern))
  | 0, _, _, _, _ => none
  | n + 1, p0, p1, p2, p3 =>
    (if (ieq p3.op 1) = true then
    some ([])
    else
    (if (ieq p3.op 3) = true then
    (if (ieq p2.op 1) = true then
    ((m_spec_l5Ranges (GPattern.mk 3 0 0 9 0 []) p3).bind fun r52 =>
    some (r52))
    else
    ((m_spec_l5Ranges p2 p3).bind fun r54 =>
    some (r54)))
    else
    (if (ieq p2.op 4) = true then
    (if (!ieq p2.ctor p3.ctor) = true then
    some ([p2])
    else
    ((m_spec_l5Kids n p0 p1 p2 p3).bind fun r63 =>
    some (r63)))
    else
    ((m_spec_l1Ctors p0 p1).bind fun r65 =>
    ((forL (fun k155 x156 (s149 : (List GPattern)) =>
    ((m_spec_l5Wide p0 p1 x156).bind fun r165 =>
    ((m_spec_l5Minus n p0 p1 r165 p3).bind fun r166 =>
    ((app s149 r166).bind fun x167 =>
    some (Ctl.go x167))))) 0 r65 []).bind fun (o148 : Ctl _ ((List GPattern))) => match o148 with
    | .ret r => some r
    | .go _ => none
    | .brk s159 =>
    some (s159))))))
def m_spec_l5Kids : Nat → (List GData) → GType → GPattern → GPattern → Option ((List GPattern))
  | 0, _, _, _, _ => none
  | n + 1, p0, p1, p2, p3 =>
    ((m_spec_l1Args p0 p1 p2.ctor).bind fun r1 =>
    ((forL (fun k1173 x1174 (s1167 : (List GPattern) × (List GPattern)) =>
    ((idx p2.kids (k1173 : Int)).bind fun x1291 =>
    ((idx p3.kids (k1173 : Int)).bind fun x1292 =>
    ((m_spec_l5Minus n p0 x1174 x1291 x1292).bind fun r1293 =>
    ((forL (fun k1383 x1384 (s1377 : (List GPattern)) =>
    ((app [] s1167.2).bind fun x1393 =>
    ((app s1167.2 [x1384]).bind fun x1394 =>
    ((dropI p2.kids (wadd .i64 (k1173 : Int) 1)).bind fun x1395 =>
    ((app x1394 x1395).bind fun x1396 =>
    ((app s1377 [(GPattern.mk 4 p2.ctor 0 0 0 x1396)]).bind fun x1397 =>
    some (Ctl.go (s1377 ++ [(GPattern.mk 4 p2.ctor 0 0 0 x1396)])))))))) 0 r1293 s1167.1).bind fun (o1376 : Ctl _ ((List GPattern))) => match o1376 with
    | .ret r => some r
    | .go _ => none
    | .brk s1387 =>
    ((m_spec_l5Meet n x1291 x1292).bind fun r1398 =>
    (if (!r1398.2) = true then
    some (Ctl.ret (s1387))
    else
    ((app s1167.2 [r1398.1]).bind fun x1401 =>
    some (Ctl.go (s1387, x1401)))))))))) 0 r1 ([], [])).bind fun (o1166 : Ctl _ ((List GPattern) × (List GPattern))) => match o1166 with
    | .ret r => some r
    | .go _ => none
    | .brk s1177 =>
    some (s1177.1)))
end
def m_spec_l5MinusAll (n : Nat) (p0 : (List GData)) (p1 : (List Int)) (p2 : GType) (p3 : (List GPattern)) (p4 : (List GPattern)) : Option ((List GPattern) × Bool) :=
    ((forL (fun k1538 x1539 (s1532 : (List GPattern)) =>
    ((forL (fun k1807 x1808 (s1801 : (List GPattern)) =>
    (if (ile (lenZ s1801.length) 400) = true then
    ((m_spec_l5Minus n p0 p2 x1808 x1539).bind fun r1819 =>
    ((m_spec_l5Keep n p0 p1 p2 r1819).bind fun r1820 =>
    ((app s1801 r1820).bind fun x1821 =>
    some (Ctl.go x1821))))
    else
    some (Ctl.brk s1801))) 0 s1532 []).bind fun (o1800 : Ctl _ ((List GPattern))) => match o1800 with
    | .ret r => some r
    | .go _ => none
    | .brk s1811 =>
    (if (ilt 400 (lenZ s1811.length)) = true then
    some (Ctl.ret (([], false)))
    else
    some (Ctl.go s1811)))) 0 p4 p3).bind fun (o1531 : Ctl _ ((List GPattern))) => match o1531 with
    | .ret r => some r
    | .go _ => none
    | .brk s1542 =>
    ((m_spec_l5Keep n p0 p1 p2 s1542).bind fun r1825 =>
    some ((r1825, true))))
def m_spec_l6Rest (n : Nat) (p0 : (List GData)) (p1 : GType) (p2 : (List GPattern)) (p3 : (List GClause)) (p4 : Int) : Option ((List GPattern) × Bool) :=
    ((m_spec_l6Parts n p3 p4).bind fun r1 =>
    (if (!r1.2) = true then
    some (([], false))
    else
    ((m_spec_l1Table n p0).bind fun r4 =>
    ((m_spec_l5MinusAll n p0 r4 p1 p2 r1.1).bind fun r5 =>
    ((m_spec_l5Right n p0 p1 r5.1 r5.2).bind fun r6 =>
    some ((r6.1, r6.2)))))))
def m_spec_MissingPatterns (n : Nat) (p0 : (List GData)) (p1 : GType) (p2 : (List GClause)) : Option ((List GPattern) × Bool) :=
    ((m_spec_ClausesValid n p0 p1 p2).bind fun r4 =>
    (if (!r4) = true then
    some (([], false))
    else
    ((m_spec_l5Any).bind fun r6 =>
    ((m_spec_l6Rest n p0 p1 [r6] p2 (lenZ p2.length)).bind fun r7 =>
    some ((r7.1, r7.2))))))
def m_spec_Exhaustive (n : Nat) (p0 : (List GData)) (p1 : GType) (p2 : (List GClause)) : Option (Bool × Bool) :=
    ((m_spec_MissingPatterns n p0 p1 p2).bind fun r1 =>
    (if r1.2 = true then
    some ((ieq (lenZ r1.1.length) 0, r1.2))
    else
    some ((false, r1.2))))
def m_impl_countValues : Nat → (List GData) → GType → Int → Option (Int)
  | 0, _, _, _ => none
  | n + 1, p0, p1, p2 =>
    (if (ieq p2 0) = true then
    some (0)
    else
    (if (ieq p1.data (-1)) = true then
    some (10)
    else
    ((m_impl_ctorsOf p0 p1).bind fun r461 =>
    ((forL (fun k767 x768 (s761 : Int) =>
    ((m_impl_argTypes p0 p1 x768).bind fun r880 =>
    ((forL (fun k906 x907 (s900 : Int) =>
    ((m_impl_countValues n p0 x907 (wsub .i64 p2 1)).bind fun r913 =>
    some (Ctl.go (imin (wmul .i64 s900 r913) 401)))) 0 r880 1).bind fun (o899 : Ctl _ (Int)) => match o899 with
    | .ret r => some r
    | .go _ => none
    | .brk s910 =>
    some (Ctl.go (imin (wadd .i64 s761 s910) 401))))) 0 r461 0).bind fun (o760 : Ctl _ (Int)) => match o760 with
    | .ret r => some r
    | .go _ => none
    | .brk s771 =>
    some (s771)))))
def m_impl_number (p0 : Int) : Option (GValue) :=
    some ((GValue.mk (-1) p0 []))
def m_impl_values_1 (n : Nat) (p0 : GType) (q0 : (List GData)) (q1 : Int) : Option (Bool) :=
    ((m_impl_countValues n q0 p0 (wsub .i64 q1 1)).bind fun r1 =>
    some (ieq r1 0))
def m_slices_Clone_Value (p0 : (List GValue)) : Option ((List GValue)) :=
    ((app [] p0).bind fun x3 =>
    some (p0))
def m_impl_values : Nat → (List GData) → GType → Int → Option ((List GValue))
  | 0, _, _, _ => none
  | n + 1, p0, p1, p2 =>
    (if (ieq p2 0) = true then
    some ([])
    else
    (if (ieq p1.data (-1)) = true then
    ((whileL (fun (s138 : (List GValue) × Int) =>
    (if (ilt s138.2 10) = true then
    ((m_impl_number s138.2).bind fun r154 =>
    ((app s138.1 [r154]).bind fun x155 =>
    some (Ctl.go (x155, wadd .i64 s138.2 1))))
    else
    some (Ctl.brk (s138.1, s138.2)))) n ([], 0)).bind fun (o137 : Ctl _ ((List GValue) × Int)) => match o137 with
    | .ret r => some r
    | .go _ => none
    | .brk s148 =>
    some (s148.1))
    else
    ((m_impl_ctorsOf p0 p1).bind fun r43567 =>
    ((forL (fun k72509 x72510 (s72503 : (List GValue)) =>
    ((((m_impl_argTypes p0 p1 x72510).bind fun r79747 =>
    ((m_slices_ContainsFunc_Type r79747 (fun a0 => m_impl_values_1 n a0 p0 p2)).bind fun r79751 =>
    (if r79751 = true then
    some (Ctl.brk s72503)
    else
    ((forL (fun k85772 x85773 (s85766 : (List GValue)) =>
    ((m_impl_values n p0 x85773 (wsub .i64 p2 1)).bind fun r86375 =>
    ((forL (fun k86875 x86876 (s86869 : (List GValue)) =>
    ((forL (fun k86959 x86960 (s86953 : (List GValue)) =>
    ((m_slices_Clone_Value x86876.kids).bind fun r86968 =>
    ((app r86968 [x86960]).bind fun x86969 =>
    ((app s86953 [(GValue.mk x72510 0 x86969)]).bind fun x86970 =>
    some (Ctl.go (s86953 ++ [(GValue.mk x72510 0 x86969)])))))) 0 r86375 s86869).bind fun (o86952 : Ctl _ ((List GValue))) => match o86952 with
    | .ret r => some r
    | .go _ => none
    | .brk s86963 =>
    some (Ctl.go s86963))) 0 s85766 []).bind fun (o86868 : Ctl _ ((List GValue))) => match o86868 with
    | .ret r => some r
    | .go _ => none
    | .brk s86879 =>
    some (Ctl.go s86879)))) 0 r79747 [(GValue.mk x72510 0 [])]).bind fun (o85765 : Ctl _ ((List GValue))) => match o85765 with
    | .ret r => some r
    | .go _ => none
    | .brk s85776 =>
    ((app s72503 s85776).bind fun x86973 =>
    some (Ctl.brk x86973))))))).bind fun (o79744 : Ctl _ ((List GValue))) => match o79744 with
    | .ret r => some r
    | .go _ => none
    | .brk s79743 =>
    some (Ctl.go s79743))) 0 r43567 []).bind fun (o72502 : Ctl _ ((List GValue))) => match o72502 with
    | .ret r => some r
    | .go _ => none
    | .brk s72513 =>
    some (s72513)))))
def m_impl_ValuesUpTo (n : Nat) (p0 : (List GData)) (p1 : GType) (p2 : Int) : Option ((List GValue) × Bool) :=
    ((m_impl_TypeValid n p0 p1).bind fun r59 =>
    (if (!r59) = true then
    some (([], false))
    else
    ((m_impl_within p2 0 4).bind fun r62 =>
    (if (!r62) = true then
    some (([], false))
    else
    ((m_impl_countValues n p0 p1 p2).bind fun r66 =>
    (if (ilt 400 r66) = true then
    some (([], false))
    else
    ((m_impl_values n p0 p1 p2).bind fun r110 =>
    ((forL (fun k140 x141 (s134 : (List GValue)) =>
    ((m_impl_ownValue n x141).bind fun r148 =>
    ((app s134 [r148]).bind fun x149 =>
    some (Ctl.go x149)))) 0 r110 []).bind fun (o133 : Ctl _ ((List GValue))) => match o133 with
    | .ret r => some r
    | .go _ => none
    | .brk s144 =>
    some ((s144, true))))))))))
def m_impl_RunClauses (n : Nat) (p0 : (List GData)) (p1 : GType) (p2 : (List GClause)) (p3 : GValue) : Option (Int × (List GBind) × Bool) :=
    ((m_impl_ClausesValid n p0 p1 p2).bind fun r34 =>
    (if (!r34) = true then
    some (((-1), [], false))
    else
    ((m_impl_valueOk n p0 p1 p3).bind fun r37 =>
    (if (!r37) = true then
    some (((-1), [], false))
    else
    ((m_impl_run n p2 p3).bind fun r39 =>
    some ((r39.1, r39.2, true)))))))
def m_laws_FnExhaustive (n : Nat) (p0 : (List Int)) (p1 : (List Int)) : Option (Bool) :=
    (if (ilt 1048576 (lenZ p0.length)) = true then
    some (true)
    else
    (if (ilt 1048576 (lenZ p1.length)) = true then
    some (true)
    else
    ((m_spec_DrawExhaustive n p0).bind fun r11 =>
    ((m_impl_Exhaustive n r11.1 r11.2.1 r11.2.2).bind fun r12 =>
    ((m_spec_Exhaustive n r11.1 r11.2.1 r11.2.2).bind fun r13 =>
    (if (!(r12.2 == r13.2)) = true then
    (if (r12.2 == r13.2) = true then
    some ((r12.1 == r13.1))
    else
    some (false))
    else
    (if (!(r12.1 == r13.1)) = true then
    (if (r12.2 == r13.2) = true then
    some ((r12.1 == r13.1))
    else
    some (false))
    else
    (if (!r12.1) = true then
    (if (r12.2 == r13.2) = true then
    some ((r12.1 == r13.1))
    else
    some (false))
    else
    ((m_impl_ValuesUpTo n r11.1 r11.2.1 (wadd .i64 1 (wrem (lenZ p1.length) 3))).bind fun r54 =>
    ((forL (fun k162 x163 (s156 : Unit) =>
    ((m_impl_RunClauses n r11.1 r11.2.1 r11.2.2 x163).bind fun r174 =>
    (if (!r174.2.2) = true then
    some (Ctl.ret (false))
    else
    (if (ilt r174.1 0) = true then
    some (Ctl.ret (false))
    else
    some (Ctl.go ()))))) 0 r54.1 ()).bind fun (o155 : Ctl _ (Unit)) => match o155 with
    | .ret r => some r
    | .go _ => none
    | .brk s166 =>
    some (true)))))))))))
def m_spec_l11All (n : Nat) (p0 : (List GClause)) : Option ((List GClause)) :=
    ((forL (fun k70 x71 (s64 : (List GClause)) =>
    ((m_spec_l3Copy n x71.pat).bind fun r78 =>
    ((app s64 [(GClause.mk r78 x71.guard)]).bind fun x79 =>
    some (Ctl.go x79)))) 0 p0 []).bind fun (o63 : Ctl _ ((List GClause))) => match o63 with
    | .ret r => some r
    | .go _ => none
    | .brk s74 =>
    some (s74))
def m_spec_ClosedClauses (n : Nat) (p0 : (List GData)) (p1 : GType) (p2 : (List GClause)) : Option ((List GClause) × Bool) :=
    ((m_spec_Exhaustive n p0 p1 p2).bind fun r1 =>
    (((if (!r1.2) = true then
    some (Ctl.ret (([], false)))
    else
    (if (!r1.1) = true then
    (if (ieq (lenZ p2.length) 8) = true then
    some (Ctl.ret (([], false)))
    else
    some (Ctl.brk ()))
    else
    some (Ctl.brk ())))).bind fun (o11 : Ctl _ (Unit)) => match o11 with
    | .ret r => some r
    | .go _ => none
    | .brk s10 =>
    ((m_spec_l11All n p2).bind fun r22 =>
    (((if (!r1.1) = true then
    ((m_spec_l5Any).bind fun r32 =>
    ((app r22 [(GClause.mk r32 (GGuard.mk 0 0 0))]).bind fun x33 =>
    some (Ctl.brk x33)))
    else
    some (Ctl.brk r22))).bind fun (o28 : Ctl _ ((List GClause))) => match o28 with
    | .ret r => some r
    | .go _ => none
    | .brk s27 =>
    some ((s27, true))))))
def m_slices_EqualFunc_Clause (p0 : (List GClause)) (p1 : (List GClause)) (p2 : (GClause → GClause → Option Bool)) : Option (Bool) :=
    (if (!ieq (lenZ p0.length) (lenZ p1.length)) = true then
    some (false)
    else
    ((forL (fun k80 x81 (s74 : Unit) =>
    ((idx p1 (k80 : Int)).bind fun x89 =>
    ((p2 x81 x89).bind fun r90 =>
    (if (!r90) = true then
    some (Ctl.ret (false))
    else
    some (Ctl.go ()))))) 0 p0 ()).bind fun (o73 : Ctl _ (Unit)) => match o73 with
    | .ret r => some r
    | .go _ => none
    | .brk s84 =>
    some (true)))
def m_slices_EqualFunc_Pattern (p0 : (List GPattern)) (p1 : (List GPattern)) (p2 : (GPattern → GPattern → Option Bool)) : Option (Bool) :=
    (if (!ieq (lenZ p0.length) (lenZ p1.length)) = true then
    some (false)
    else
    ((forL (fun k80 x81 (s74 : Unit) =>
    ((idx p1 (k80 : Int)).bind fun x89 =>
    ((p2 x81 x89).bind fun r90 =>
    (if (!r90) = true then
    some (Ctl.ret (false))
    else
    some (Ctl.go ()))))) 0 p0 ()).bind fun (o73 : Ctl _ (Unit)) => match o73 with
    | .ret r => some r
    | .go _ => none
    | .brk s84 =>
    some (true)))
def m_impl_PatternSame : Nat → GPattern → GPattern → Option (Bool)
  | 0, _, _ => none
  | n + 1, p0, p1 =>
    (if (ieq p0.op p1.op) = true then
    (if (ieq p0.ctor p1.ctor) = true then
    (if (ieq p0.n p1.n) = true then
    (if (ieq p0.m p1.m) = true then
    (if (ieq p0.var p1.var) = true then
    ((m_slices_EqualFunc_Pattern p0.kids p1.kids (fun a0 a1 => m_impl_PatternSame n a0 a1)).bind fun r13 =>
    some (r13))
    else
    some (false))
    else
    some (false))
    else
    some (false))
    else
    some (false))
    else
    some (false))
def m_impl_ClausesSame_1 (n : Nat) (p0 : GClause) (p1 : GClause) : Option (Bool) :=
    ((m_impl_PatternSame n p0.pat p1.pat).bind fun r5 =>
    (if r5 = true then
    some (eqAll [ieq p0.guard.op p1.guard.op, ieq p0.guard.var p1.guard.var, ieq p0.guard.n p1.guard.n])
    else
    some (false)))
def m_impl_ClausesSame (n : Nat) (p0 : (List GClause)) (p1 : (List GClause)) : Option (Bool) :=
    ((m_slices_EqualFunc_Clause p0 p1 (fun a0 a1 => m_impl_ClausesSame_1 n a0 a1)).bind fun r1 =>
    some (r1))
def m_spec_DrawClosedClauses (n : Nat) (p0 : (List Int)) : Option ((List GData) × GType × (List GClause)) :=
    ((m_spec_DrawMissingPatterns n p0).bind fun r1 =>
    some ((r1.1, r1.2.1, r1.2.2)))
def m_impl_ownClauses (n : Nat) (p0 : (List GClause)) : Option ((List GClause)) :=
    ((forL (fun k70 x71 (s64 : (List GClause)) =>
    ((m_impl_ownPattern n x71.pat).bind fun r78 =>
    ((app s64 [(GClause.mk r78 x71.guard)]).bind fun x79 =>
    some (Ctl.go x79)))) 0 p0 []).bind fun (o63 : Ctl _ ((List GClause))) => match o63 with
    | .ret r => some r
    | .go _ => none
    | .brk s74 =>
    some (s74))
def m_impl_ClosedClauses (n : Nat) (p0 : (List GData)) (p1 : GType) (p2 : (List GClause)) : Option ((List GClause) × Bool) :=
    ((m_impl_Exhaustive n p0 p1 p2).bind fun r1 =>
    (if (!r1.2) = true then
    some (([], false))
    else
    ((m_impl_ownClauses n p2).bind fun r4 =>
    (((if (!r1.1) = true then
    ((m_impl_anyPattern).bind fun r14 =>
    ((app r4 [(GClause.mk r14 (GGuard.mk 0 0 0))]).bind fun x15 =>
    some (Ctl.brk x15)))
    else
    some (Ctl.brk r4))).bind fun (o10 : Ctl _ ((List GClause))) => match o10 with
    | .ret r => some r
    | .go _ => none
    | .brk s9 =>
    (if (ilt 8 (lenZ s9.length)) = true then
    some (([], false))
    else
    some ((s9, true)))))))
def m_laws_FnClosedClauses (n : Nat) (p0 : (List Int)) (p1 : (List Int)) : Option (Bool) :=
    (if (ilt 1048576 (lenZ p0.length)) = true then
    some (true)
    else
    (if (ilt 1048576 (lenZ p1.length)) = true then
    some (true)
    else
    ((m_spec_DrawClosedClauses n p0).bind fun r11 =>
    ((m_impl_ClosedClauses n r11.1 r11.2.1 r11.2.2).bind fun r12 =>
    ((m_spec_ClosedClauses n r11.1 r11.2.1 r11.2.2).bind fun r13 =>
    (if (!(r12.2 == r13.2)) = true then
    (if (r12.2 == r13.2) = true then
    ((m_impl_ClausesSame n r12.1 r13.1).bind fun r101 =>
    some (r101))
    else
    some (false))
    else
    ((m_impl_ClausesSame n r12.1 r13.1).bind fun r103 =>
    (if (!r103) = true then
    (if (r12.2 == r13.2) = true then
    ((m_impl_ClausesSame n r12.1 r13.1).bind fun r109 =>
    some (r109))
    else
    some (false))
    else
    (if (!r12.2) = true then
    (if (r12.2 == r13.2) = true then
    ((m_impl_ClausesSame n r12.1 r13.1).bind fun r117 =>
    some (r117))
    else
    some (false))
    else
    ((m_impl_Exhaustive n r11.1 r11.2.1 r12.1).bind fun r119 =>
    ((m_impl_ValuesUpTo n r11.1 r11.2.1 (wadd .i64 1 (wrem (lenZ p1.length) 3))).bind fun r120 =>
    ((forL (fun k298 x299 (s292 : Unit) =>
    ((((m_impl_RunClauses n r11.1 r11.2.1 r11.2.2 x299).bind fun r319 =>
    ((m_impl_RunClauses n r11.1 r11.2.1 r12.1 x299).bind fun r320 =>
    (if (ilt r320.1 0) = true then
    some (Ctl.ret (Ctl.ret (false)))
    else
    (if (ile 0 r319.1) = true then
    (if (!ieq r320.1 r319.1) = true then
    some (Ctl.ret (Ctl.ret (false)))
    else
    some (Ctl.brk ()))
    else
    some (Ctl.brk ())))))).bind fun (o316 : Ctl _ (Unit)) => match o316 with
    | .ret r => some r
    | .go _ => none
    | .brk s315 =>
    some (Ctl.go ()))) 0 r120.1 ()).bind fun (o291 : Ctl _ (Unit)) => match o291 with
    | .ret r => some r
    | .go _ => none
    | .brk s302 =>
    (if r119.2 = true then
    some (r119.1)
    else
    some (false))))))))))))))
end Go.Proofs.YtnackipaoepmfaaGreat
