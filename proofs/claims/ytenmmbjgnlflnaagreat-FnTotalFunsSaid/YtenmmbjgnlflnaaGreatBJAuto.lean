import Derived.Test.YtenmmbjgnlflnaaGreatBJAuI
set_option linter.unusedSimpArgs false
set_option linter.unusedVariables false
namespace Go.Proofs.YtenmmbjgnlflnaaGreat
open Go Go.RowKit
theorem ar {G:Nat→Prop}(h:∀ n,G n→G (n+1))(h0:G 0:=by intros;exact ⟨fun r h=>nomatch h⟩):∀ n,G n:=fun n=>by
  induction n with
  | zero=>exact h0
  | succ n ih=>exact h n ih
theorem ar2 {G H:Nat→Prop}(h1:∀ n,G n→H n→G (n+1))(h2:∀ n,G n→H n→H (n+1))(h0:G 0:=by intros;exact ⟨fun r h=>nomatch h⟩)(h0':H 0:=by intros;exact ⟨fun r h=>nomatch h⟩):∀ n,G n∧H n:=fun n=>by
  induction n with
  | zero=>exact ⟨h0,h0'⟩
  | succ n ih=>exact ⟨h1 n ih.1 ih.2,h2 n ih.1 ih.2⟩
theorem ar3 {G H I:Nat→Prop}(h1:∀ n,G n→H n→I n→G (n+1))(h2:∀ n,G n→H n→I n→H (n+1))(h3:∀ n,G n→H n→I n→I (n+1))(h0:G 0:=by intros;exact ⟨fun r h=>nomatch h⟩)(h0':H 0:=by intros;exact ⟨fun r h=>nomatch h⟩)(h0'':I 0:=by intros;exact ⟨fun r h=>nomatch h⟩):∀ n,G n∧H n∧I n:=fun n=>by
  induction n with
  | zero=>exact ⟨h0,h0',h0''⟩
  | succ n ih=>exact ⟨h1 n ih.1 ih.2.1 ih.2.2,h2 n ih.1 ih.2.1 ih.2.2,h3 n ih.1 ih.2.1 ih.2.2⟩
section
variable {P:Program} {β:Base} {σ:St} {t:Hint}
theorem pM_t {Q:Exit→St→Prop}{cd:Code} [Shp cd] {s:Nat}(S:St)(hS:movS σ s=S)(h:Hn t (TrD P β cd S Q)):Hn (.pM s t) (TrD P β cd σ Q):=⟨TrD.ghost (hS▸W7z) h.pf⟩
theorem lRc {l:List Nat}{q sz i n el fz:Nat}(hi:i<l.length)(hL:σ.h q=some ⟨1,[[.sl sz (l.getD i 0) n]],fz,el⟩):Q8p σ l q ⟨1,[[.sl sz i n]],fz,el⟩:=lRb hL (Q8m hi)
def AllK (ρ:Nat→Option Nat):List (Option Loc)→(List (Option Loc)→Prop)→Prop
  | [],p=>p []
  | x::r,p=>∃ y,Z4a ρ x y∧AllK ρ r fun m=>p (y::m)
theorem V0k {ρ:Nat→Option Nat} : ∀ {Hs:List (Option Loc)} {p:List (Option Loc)→Prop},AllK ρ Hs p→∃ m,All2 (Z4a ρ) Hs m∧p m
  | [],_,h=>⟨[],.nil,h⟩
  | _::_,_,⟨y,h1,h2⟩=>by
    obtain ⟨m,h3,h4⟩:=V0k h2
    exact ⟨y::m,.cons h1 h3,h4⟩
theorem kNil {ρ:Nat→Option Nat}{p:List (Option Loc)→Prop}(h:p []):AllK ρ [] p:=h
theorem Y87 {ρ:Nat→Option Nat}{r:List (Option Loc)}{p:List (Option Loc)→Prop}(h:AllK ρ r fun m=>p (none::m)):AllK ρ (none::r) p:=⟨none,oRn,h⟩
theorem kBox {l:List Nat}{r:List (Option Loc)}{p:List (Option Loc)→Prop}{sz i n el fz:Nat}(hn:l.Nodup)(hi:i<l.length)(h:AllK (J0 l) r fun m=>p (some ⟨1,[[.sl sz (l.getD i 0) n]],fz,el⟩::m)):AllK (J0 l) (some ⟨1,[[.sl sz i n]],fz,el⟩::r) p:=⟨_,oRb hn (Q8m hi),h⟩
theorem Y86 {ρ:Nat→Option Nat}{L:Loc}{r:List (Option Loc)}{p:List (Option Loc)→Prop}(hf:FrS L.rows)(h:AllK ρ r fun m=>p (some L::m)):AllK ρ (some L::r) p:=⟨_,X0f hf,h⟩
theorem Y4s {f:FuncId}{args args':List D}{K:(Nat→Option Loc)→D→Prop}{H:List Loc}{Hs:List (Option Loc)}{x:D}(q:Q12 P f H args' (fun H' d=>H'=Hs∧d=x))(ks:List Nat)(h0:infB σ.h args args' 0 H 0 []=ks)(hk:(vwKb σ.h args args').1)(hn:ks.Nodup)
    (names:List Nat) (hnm:ks++J3 (σ.next+1) (Hs.length-ks.length)=names) (hl:All2 (Q8p { σ with h:=(vwKb σ.h args args').2.2,next:=σ.next+1 } ks) ks H) (ha:All2 (Ren (fun i=>ks[i]?)) (vwKb σ.h args args').2.1 args') (h7:Hs.length≤ks.length+7)
    (hnn:names.Nodup) (hx:Z5v names x) (hK:AllK (J0 names) Hs fun Hs2=>K (Q26 (vwKb σ.h args args').2.2 names Hs2) (rnm names x)):Q8n P σ f args K:=by
  obtain ⟨Hs2,hH,hK⟩:=V0k hK
  exact Y4t q ks h0 hk hn names hnm hl ha h7 hnn Hs2 hH hx hK
theorem X8f {r r':List D}(h:All2 D.le r r'):∀ A:List (List D),All2 (All2 D.le) (A++[r]) (A++[r'])
  | []=>.cons h .nil
  | a::A=>.cons (Z6w a) (X8f h A)
@[simp] theorem Y85 {sz:Nat} {A:List (List D)} {r r':List D} (h:All2 D.le r r'):D.le (.slice sz (A++[r])) (.slice sz (A++[r'])):=W3x (X8f h A)
theorem V7h {l:List Nat}{d:D}(h:Q7z l d):Ren (fun k=>l[k]?) (rnm0 l d) d:=by
  cases d
  case ptr sz k i j=>exact .ptr _ _ _ _ _ (Q8m h)
  case sl sz k n=>exact .sl _ _ _ _ (Q8m h)
  case mp k=>exact .mp _ _ (Q8m h)
  all_goals exact W1t h
theorem TG.c {l:List Nat}{s:Nat}{f:FuncId}{ds:List D}{r:List (Nat×D)}(h:TG σ l r)(h1:σ.t s=.clos f (ds.map (rnm0 l)))(h2:∀ d∈ds,Q7z l d):TG σ l ((s,.clos f ds)::r):=h.u (by
  rw [h1]
  refine .ren _ _ (.clos _ _ _ (by simp) fun i d d' e1 e2=>?_)
  rw [List.getElem?_map,e2] at e1
  cases e1
  exact V7h (h2 d' (U1 e2)))
def vwP1 (h:Nat→Option Loc):D→Prop×(Nat→Option Loc)
  | .ptr _ k _ _=>match h k with
    | some L=>vwRs k h 0 L.rows
    | none=>(False,h)
  | _=>(True,h)
theorem V71 (x:D){h:Nat→Option Loc}{d:D}(hk:(vwP1 h d).1):View h x x (vwP1 h d).2:=by
  cases d
  case ptr sz k i j=>
    simp only [vwP1] at hk ⊢
    cases e:h k with
    | none=>rw [e] at hk;exact hk.elim
    | some L=>rw [e] at hk;exact X8y k x L.rows h 0 hk
  all_goals exact .same _ _
def vwPl:(Nat→Option Loc)→List D→Prop×(Nat→Option Loc)
  | h,[]=>(True,h)
  | h,d::l=>((vwP1 h d).1∧(vwPl (vwP1 h d).2 l).1,(vwPl (vwP1 h d).2 l).2)
theorem W6l (x:D):∀ (l:List D) (h:Nat→Option Loc),(vwPl h l).1→View h x x (vwPl h l).2
  | [],h,_=>.same _ _
  | d::l,h,hk=>.trans _ _ _ _ _ _ (V71 x hk.1) (W6l x l _ hk.2)
def vwM (h:Nat→Option Loc):D→VwR
  | .clos f ds=>⟨(vwPl h ds).1∧(vw1 (vwPl h ds).2 (.clos f ds)).ok,(vw1 (vwPl h ds).2 (.clos f ds)).d,(vw1 (vwPl h ds).2 (.clos f ds)).h⟩
  | d=>vw1 h d
theorem Y07 {h:Nat→Option Loc}{d:D}(hk:(vwM h d).ok):View h d (vwM h d).d (vwM h d).h:=by
  cases d
  case clos f ds=>exact .trans _ _ _ _ _ _ (W6l _ ds h hk.1) (X2z hk.2)
  all_goals exact X2z hk
def vwLm (h:Nat→Option Loc):List D→Prop×List D×(Nat→Option Loc)
  | []=>(True,[],h)
  | d::l=>((vwM h d).ok∧(vwLm (vwM h d).h l).1,(vwM h d).d::(vwLm (vwM h d).h l).2.1,(vwLm (vwM h d).h l).2.2)
theorem W6n:∀ (l:List D) (h:Nat→Option Loc),(vwLm h l).1→Q7y h l (vwLm h l).2.1 (vwLm h l).2.2
  | [],h,_=>.nil h
  | d::l,h,hk=>.cons (Y07 hk.1) (W6n l _ hk.2)
theorem Y4v {f:FuncId}{args args':List D}{K:(Nat→Option Loc)→D→Prop}{x:D}(q:Q7 P f args' (fun d=>d=x))(hs:x.scalar=true)(hk:(vwLm σ.h args).1)(hle:All2 D.le (vwLm σ.h args).2.1 args')(hf:∀ d∈args',Free d)(hK:K σ.h x):Q8n P σ f args K:=
  V97 (W6n args σ.h hk) q hle hf fun r hr=>by rw [hr];exact ⟨hs,hK⟩
theorem gcT {b:Bool}{a c:Prop}{s:Tag a}{u:Tag c}(hb:b=true)(h:a):Z5c (some b) a c s u:=by subst hb;exact h
theorem gcF {b:Bool}{a c:Prop}{s:Tag a}{u:Tag c}(hb:b=false)(h:c):Z5c (some b) a c s u:=by subst hb;exact h
end
set_option maxRecDepth 100000 in
theorem au {F E:Prop}(f:F)(e:E)(t:Hint){G:Prop}(h:F→E→Hn t G:=by
  intro hf he
  repeat (refine HAll (fun p=>?_);first | refine unB p ?_ | refine unO ?_ | skip)
  refine HCt (fun r h=>?_)
  try (have i1:=‹CF1 _ _ _ _ _›;have fr1:FrL _:=⟨i1.fr⟩;have fr2:=fr1.pf)
  try (have i1:=‹CF2 _ _ _ _ _ _›;have fr1:FrL _:=⟨i1.fr⟩;have fr2:=fr1.pf)
  rw [he] at h
  clear he
  first
    | refine HCD hf _ (hres:=by conv=>lhs;reduce) (fun β hβ=>?_)
    | refine HCH hf _ _ (hres:=by conv=>lhs;reduce) (fun β hβ=>?_)
  clear hf
  repeat' first
    | (refine gT ?_ ?_ ?_ ?_;rotate_left 1;focus (first | (simp [stR,uT,uH,ren1,nmI,renI];done) | (simp [stR,uT,uH,ren1,nmI,renI];rfl)))
    | (refine gTr ?_ ?_ ?_ ?_ ?_;(focus rfl);rotate_left 1;focus (first | (simp [stR,uT,uH,ren1,nmI,renI];done) | (simp [stR,uT,uH,ren1,nmI,renI];rfl)))
    | (refine pC_r ?_ ?_ ?_ ?_;(focus rfl);rotate_left 1;focus (first | (simp [celS,celL];done) | (simp [celS,celL];rfl)))
    | (revert h;with_reducible first
        | (refine hI (fun c h=>?_) (fun c h=>?_))
        | (refine hIz (fun c h=>?_) (fun c h=>?_))
        | exact hNo
        | (refine hSg ?_;intro h;cases h)
        | (refine hIdx (fun x hx f1 f2 f3 f4 f5 f6 h=>?_);(first | refine unB x ?_ | refine unO ?_ | refine zOk ?_);(try simp only [Int.reduceToNat,Int.toNat_natCast] at f3 f4 f5);(first | (simp only [U3,U4,Nat.zero_add,Nat.reduceAdd,Nat.cast_ofNat,Int.cast_ofNat_Int] at f1 f4 f6;try (have f7:=f2 rS;simp only [List.map_cons,List.map_nil,Y80] at f7)) | clear f6))
        | (refine Y8n (fun x fx f1 h=>?_);(first | refine unB x ?_ | refine unO ?_ | refine zOk ?_);subst fx;try simp only [U5,U3,U4,U7,Nat.zero_add,Nat.add_zero,Nat.reduceAdd] at f1)
        | (refine hApp (fun x f1 f2 f3 h=>?_);(first | refine unB x ?_ | refine unO ?_ | refine zOk ?_);try simp only [U5,U3,U4,U7,Nat.zero_add,Nat.add_zero,Nat.reduceAdd] at f2 f3)
        | (refine hSet (fun x f1 f2 f3 f4 h=>?_);(first | refine unB x ?_ | refine unO ?_ | refine zOk ?_);try simp only [Int.reduceToNat,Int.toNat_natCast] at f3)
        | (refine Y8b (fun x f1 f2 f3 f4 f5 f6 f7 f8 h=>?_);clear f1;first | refine unB x ?_ | refine unO ?_ | refine zOk ?_)
        | (refine Y8g (fun x f1 f2 f3 f4 f5 h=>?_);clear f1;first | refine unB x ?_ | refine unO ?_ | refine zOk ?_)
        | (refine hSub (fun x f1 f2 f3 f4 h=>?_);first | refine unB x ?_ | refine unO ?_ | refine zOk ?_)
        | (refine hMk (fun x fx f1 f2 h=>?_);(first | refine unB x ?_ | refine unO ?_ | refine zOk ?_);subst fx)
        | (refine Y8o (fun x f1 f2 f3 f4 f5 f6 h=>?_);first | refine unB x ?_ | refine unO ?_ | refine zOk ?_)
        | (refine Y8m (fun x f1 f2 f3 f4 h=>?_);first | refine unB x ?_ | refine unO ?_ | refine zOk ?_)
        | (refine Y3k (fun x f1 f2 f3 f4 f5 f6 h=>?_);(first | refine unB x ?_ | refine unO ?_ | refine zOk ?_);try simp only [Int.reduceToNat,Int.toNat_natCast,Nat.reduceMul,Nat.reduceSub] at f3 f4 f5 f6)
        | (refine Y3j (fun x f1 f2 f3 f4 f5 f6 h=>?_);(first | refine unB x ?_ | refine unO ?_ | refine zOk ?_);try simp only [Int.reduceToNat,Int.toNat_natCast,Nat.reduceMul,Nat.reduceSub] at f3 f4 f5 f6)
        | (refine Y8h (fun f1 h=>?_);first | refine unB _ ?_ | refine unO ?_ | refine zOk ?_)
        | (refine Y8i (fun f1 f2 f3 h=>?_);first | refine unB _ ?_ | refine unO ?_ | refine zOk ?_)
        | (refine Y8k (fun f1 h=>?_);first | refine unB _ ?_ | refine unO ?_ | refine zOk ?_)
        | (refine Y8j (fun f1 f2 h=>?_);first | refine unB _ ?_ | refine unO ?_ | refine zOk ?_)
        | (refine hChk (fun f1 h=>?_);first | refine unB _ ?_ | refine unO ?_ | refine zOk ?_)
        | (refine Y8d (fun x fx f1 h=>?_);(first | refine unB x ?_ | refine unO ?_ | refine zOk ?_);subst fx)
        | (refine Y8c (fun x fx f1 h=>?_);(first | refine unB x ?_ | refine unO ?_ | refine zOk ?_);subst fx)
        | (refine Y8e (fun x fx f1 h=>?_);(first | refine unB x ?_ | refine unO ?_ | refine zOk ?_);subst fx;try simp only [ByteArray.size_append] at f1)
        | ((first | refine hCF1 ‹CF1 _ _ _ _ _› (fun x q h=>?_) | refine hCF2 ‹CF2 _ _ _ _ _ _› (fun x q h=>?_) | refine Y3i (fun x q h=>?_) | (refine Y8l ?_ ?_ (fun x q h=>?_);rotate_left 1;focus infer_instance))
           (first | refine unB x ?_ | refine unO ?_ | refine zOk ?_)
           first | ((fail_if_success (have z:=q1));revert q;intro q1) | ((fail_if_success (have z:=q2));revert q;intro q2) | ((fail_if_success (have z:=q3));revert q;intro q3) | ((fail_if_success (have z:=q4));revert q;intro q4) | ((fail_if_success (have z:=q5));revert q;intro q5) | ((fail_if_success (have z:=q6));revert q;intro q6) | ((fail_if_success (have z:=q7));revert q;intro q7) | ((fail_if_success (have z:=q8));revert q;intro q8) | (revert q;intro q9)))
    | (revert r;refine jE ?_ ?_ ?_ (fun r h=>?_) (fun x r h=>?_);(focus rfl);rotate_left 1;(focus (first | (simp [stR,uT,uH,ren1,nmI,renI];done) | (simp [stR,uT,uH,ren1,nmI,renI];rfl)));rotate_left 1;dsimp only at h;rotate_right 1)
    | (with_reducible first
        | refine qs_n ?_ | refine qs_r ?_ | refine qs_x ?_ | refine qb_n ?_ | refine qb_r ?_ | refine qb_x ?_ | refine qj_n ?_ | refine qf_n ?_ | refine qf_b ?_
        | refine skR ?_ | refine rtR ?_ | refine exR ?_ | refine xDn ?_ | refine xHn ?_
        | (refine qj_r (fun r h=>?_);dsimp only at h) | (refine qj_x (fun r h=>?_);dsimp only at h) | (refine qf_r (fun r h=>?_);dsimp only at h))
    | ((with_reducible refine qb_y ?_ ?_);focus decide)
    | ((with_reducible refine qf_x ?_ (fun r h=>?_));(focus decide);dsimp only at h)
    | ((with_reducible first | refine sR (fun K hK=>?_) | refine rR (fun K hK=>?_));first | simp [*,-h,-hK] | simp [*,-hK])
    | ((first | refine dS ?_ ?_ (fun K hK=>?_) | refine dR ?_ ?_ (fun K hK=>?_));(focus rfl);(focus rfl);first | simp [*,-h,-hK] | simp [*,-hK])
    | ((first | refine zS ?_ ?_ ?_ (fun K hK=>?_) | refine zR ?_ ?_ ?_ (fun K hK=>?_));(focus rfl);(focus rfl);(focus (exact Nat.le_of_ble_eq_true rfl));first | simp [*,-h,-hK] | simp [*,-hK])
    | ((with_reducible refine hK _ ?_);clear hK)
    | ((with_reducible refine gcT ?_ ?_);(focus (clear hK;(try clear h);simp_all;done));first | simp [*,-h,-hK] | simp [*,-hK])
    | ((with_reducible refine gcF ?_ ?_);(focus (clear hK;(try clear h);simp_all;done));first | simp [*,-h,-hK] | simp [*,-hK])
    | ((first
        | (refine cp q1 ?_ ?_ ?_;rotate_left 1;(focus (simp [*,-hK];done));(focus (first | (simp [*,-hK];done) | exact FrL.pf)))
        | (refine Y4w q1 rfl ?_ ?_ ?_ ?_;(focus (simp [vwL,vw1,vw0,vwC, *,-hK];done));(focus (first | (simp [vwL,vw1,vw0,vwC, *,-hK];done) | (simp only [Sl] at *;simp [vwL,vw1,vw0,vwC, *,-hK];done)));(focus (first | (simp [*,-hK];done) | exact FrL.pf)))
        | (refine Y4p q1 ?_ ?_ ?_ ?_;(focus (simp [vwL,vw1,vw0,vwC, *,-hK];done));(focus (first | (simp [vwL,vw1,vw0,vwC, *,-hK];done) | (simp only [Sl] at *;simp [vwL,vw1,vw0,vwC, *,-hK];done)));(focus (first | (simp [*,-hK];done) | exact FrL.pf)))
        | (refine Y4x q1 rfl ?_ ?_ ?_ ?_;(focus (simp [vwL0,vw0, *,-hK];done));(focus (simp [vwL0,vw0, *,-hK];done));(focus (first | (simp [*,-hK];done) | exact FrL.pf)))
        | (refine Y4q q1 ?_ ?_ ?_ ?_;(focus (simp [vwL0,vw0, *,-hK];done));(focus (simp [vwL0,vw0, *,-hK];done));(focus (first | (simp [*,-hK];done) | exact FrL.pf)))
        | (refine Y4v q1 rfl ?_ ?_ ?_ ?_;(focus (simp [vwLm,vwM,vwPl,vwP1,vwRs,vwCs,putC,vw1,vw0,vwC, *,-hK];done));(focus (first | (simp [vwLm,vwM,vwPl,vwP1,vwRs,vwCs,putC,vw1,vw0,vwC, *,-hK];done) | (simp only [Sl] at *;simp [vwLm,vwM,vwPl,vwP1,vwRs,vwCs,putC,vw1,vw0,vwC, *,-hK];done)));(focus (first | (simp [*,-hK];done) | exact FrL.pf)))
        | (refine Y4o q1 ?_ ?_ ?_ ?_;(focus (simp [vwLn,vwN,vwRs,vwCs,putC,vw1,vw0,vwC, *,-hK];done));(focus (first | (simp [vwLn,vwN,vwRs,vwCs,putC,vw1,vw0,vwC, *,-hK];done) | (simp only [Sl] at *;simp [vwLn,vwN,vwRs,vwCs,putC,vw1,vw0,vwC, *,-hK];done)));(focus (first | (simp [*,-hK];done) | exact FrL.pf)))
        | (refine X8a q1 ?_ ?_ ?_ ?_ ?_ ?_ ?_ ?_ ?_ ?_ ?_ ?_ ?_
           rotate_left 1
           focus (first | (simp [infK,fndK,nmA,nmL,nmD];done) | (simp [infK,fndK,nmA,nmL,nmD];rfl))
           focus (simp [vwK,nmA,nmL,nmD,vw1,vw0,vwC, *,-hK];done)
           focus decide
           rotate_left 1
           focus (first | (simp [J3];done) | (simp [J3];rfl))
           focus (repeat first
            | exact All2.nil
            | (refine All2.cons (lRn ?_ ?_) ?_;(focus (simp [vwK,nmA,nmL,nmD,vw1,vw0,vwC, *,-hK];done));(focus (first | (simp;done) | exact Q6 FrR.pf _))))
           focus (simp [vwK,nmA,nmL,nmD,vw1,vw0,vwC,-Q5w,-Q6x];repeat first
            | exact All2.nil
            | refine All2.cons (Z21 rfl) ?_
            | refine All2.cons (Q9g rfl) ?_
            | (refine All2.cons (Z3d ?_) ?_;focus (repeat first | exact All2.nil | refine All2.cons (Q9g rfl) ?_ | (refine All2.cons (Q9h ?_ ?_) ?_;(focus (first | (simp [*,-hK];done) | exact Fr1.pf));(focus (simp [*,-hK];done)))))
            | (refine All2.cons (Q9h ?_ ?_) ?_;(focus (first | (simp [*,-hK];done) | exact Fr1.pf));(focus (simp [*,-hK];done))))
           focus (simp;done)
           focus (simp;first | done | exact Q6 FrR.pf _)
           focus decide
           focus (simp [Z5v,Q8o,Q7z];done))
        | (refine Y4u q1 ?_ ?_ ?_ ?_ ?_ ?_ ?_ ?_ ?_ ?_ ?_ ?_
           rotate_left 1
           focus (first | (simp [infK,fndK,nmA,nmL,nmD];done) | (simp [infK,fndK,nmA,nmL,nmD];rfl))
           focus decide
           rotate_left 1
           focus (first | (simp [J3];done) | (simp [J3];rfl))
           focus (repeat first
            | exact All2.nil
            | (refine All2.cons (lRn ?_ ?_) ?_;(focus (simp [*,-hK];done));(focus (first | (simp;done) | exact Q6 FrR.pf _))))
           focus (repeat first
            | exact All2.nil
            | refine All2.cons (Z21 rfl) ?_
            | refine All2.cons (Q9g rfl) ?_
            | (refine All2.cons (Z3d ?_) ?_;focus (repeat first | exact All2.nil | refine All2.cons (Q9g rfl) ?_ | (refine All2.cons (Q9h ?_ ?_) ?_;(focus (first | (simp [*,-hK];done) | exact Fr1.pf));(focus (simp [*,-hK];done)))))
            | (refine All2.cons (Q9h ?_ ?_) ?_;(focus (first | (simp [*,-hK];done) | exact Fr1.pf));(focus (simp [*,-hK];done))))
           focus (simp;done)
           focus (simp;first | done | exact Q6 FrR.pf _)
           focus decide
           focus (simp [Z5v,Q8o,Q7z];done))
        | (refine Y4r q1 ?_ ?_ ?_ ?_ ?_ ?_ ?_ ?_ ?_ ?_ ?_ ?_ ?_
           rotate_left 1
           focus (first | (simp [infK,fndK,nmA,nmL,nmD];done) | (simp [infK,fndK,nmA,nmL,nmD];rfl))
           focus (simp [vwK,nmA,nmL,nmD,vw1,vw0,vwC, *,-hK];done)
           focus decide
           rotate_left 1
           focus (first | (simp [J3];done) | (simp [J3];rfl))
           focus (repeat first
            | exact All2.nil
            | (refine All2.cons (lRn ?_ ?_) ?_;(focus (simp [vwK,nmA,nmL,nmD,vw1,vw0,vwC, *,-hK];done));(focus (first | (simp;done) | exact Q6 FrR.pf _))))
           focus (simp [vwK,nmA,nmL,nmD,vw1,vw0,vwC,-Q5w,-Q6x];repeat first
            | exact All2.nil
            | refine All2.cons (Z21 rfl) ?_
            | refine All2.cons (Q9g rfl) ?_
            | (refine All2.cons (Z3d ?_) ?_;focus (repeat first | exact All2.nil | refine All2.cons (Q9g rfl) ?_ | (refine All2.cons (Q9h ?_ ?_) ?_;(focus (first | (simp [*,-hK];done) | exact Fr1.pf));(focus (simp [*,-hK];done)))))
            | (refine All2.cons (Q9h ?_ ?_) ?_;(focus (first | (simp [*,-hK];done) | exact Fr1.pf));(focus (simp [*,-hK];done))))
           focus (simp;done)
           focus (simp;first | done | exact Q6 FrR.pf _)
           focus decide
           focus (simp [Z5v,Q8o,Q7z];done))
        | (refine Y4s q1 ?_ ?_ ?_ ?_ ?_ ?_ ?_ ?_ ?_ ?_ ?_ ?_
           rotate_left 1
           focus (first | (simp [infB,nxB,flA,fndO,V4d,nmA,nmL,nmD, *,-hK];done) | (simp [infB,nxB,flA,fndO,V4d,nmA,nmL,nmD, *,-hK];rfl))
           focus (simp [vwKb,nmF,nmA,nmL,nmD,vw1,vw0,vwC, *,-hK];done)
           focus decide
           rotate_left 1
           focus (first | (simp [J3];done) | (simp [J3];rfl))
           focus (repeat first
            | exact All2.nil
            | (refine All2.cons (lRc ?_ ?_) ?_;(focus decide);(focus (simp [vwKb,nmF,nmA,nmL,nmD,vw1,vw0,vwC, *,-hK];done)))
            | (refine All2.cons (lRn ?_ ?_) ?_;(focus (simp [vwKb,nmF,nmA,nmL,nmD,vw1,vw0,vwC, *,-hK];done));(focus (first | (simp;done) | exact Q6 FrR.pf _))))
           focus (simp [vwKb,nmF,nmA,nmL,nmD,vw1,vw0,vwC,-Q5w,-Q6x];repeat first
            | exact All2.nil
            | refine All2.cons (Z21 rfl) ?_
            | refine All2.cons (Q9g rfl) ?_
            | (refine All2.cons (V2h ?_) ?_;focus (repeat first | exact All2.nil | refine All2.cons (Z21 rfl) ?_))
            | (refine All2.cons (Z3d ?_) ?_;focus (repeat first | exact All2.nil | refine All2.cons (Q9g rfl) ?_ | (refine All2.cons (Q9h ?_ ?_) ?_;(focus (first | (simp [*,-hK];done) | exact Fr1.pf));(focus (simp [*,-hK];done)))))
            | (refine All2.cons (Q9h ?_ ?_) ?_;(focus (first | (simp [*,-hK];done) | exact Fr1.pf));(focus (simp [*,-hK];done))))
           focus (simp;done)
           focus decide
           focus (simp [Z5v,Q8o,Q7z];done)
           repeat first
            | refine Y87 ?_
            | (refine kBox ?_ ?_ ?_;(focus decide);(focus decide))
            | (refine Y86 ?_ ?_;(focus (simp;first | done | exact Q6 FrR.pf _)))
           refine kNil ?_))
       clear q1;(try (revert q2;intro q1));(try (revert q3;intro q2));(try (revert q4;intro q3));(try (revert q5;intro q4));(try (revert q6;intro q5));(try (revert q7;intro q6));(try (revert q8;intro q7));(try (revert q9;intro q8));first | simp [vwLn,vwN,vwRs,vwCs,putC,vwL0,vwL,vw1,vw0,vwC,vwK,vwKb,nmF,nmA,nmL,nmD,rnm,rnmA,rnm0,Q26, *,-h,-hK] | simp [vwLn,vwN,vwRs,vwCs,putC,vwL0,vwL,vw1,vw0,vwC,vwK,vwKb,nmF,nmA,nmL,nmD,rnm,rnmA,rnm0,Q26, *,-hK] | skip)
    | ((refine cdT ?_ ?_ ?_ ?_);rotate_left 1;(focus rfl);focus (first | assumption | rfl | (simp [*];done)))
    | ((refine cdF ?_ ?_ ?_ ?_);rotate_left 1;(focus rfl);focus (first | assumption | rfl | (simp [*];done)))
    | ((refine cdT ?_ ?_ ?_ ?_);rotate_left 1;(focus rfl);focus (first | (simp_all;done) | (simp only [Sl] at *;simp_all;done)))
    | ((refine cdF ?_ ?_ ?_ ?_);rotate_left 1;(focus rfl);focus (first | (simp_all;done) | (simp only [Sl] at *;simp_all;done)))
    | (refine jK ?_ ?_;focus rfl)
    | (revert r;refine jS ?_ ?_ ?_ (fun r h=>?_) (fun x r h=>?_);(focus rfl);rotate_left 1;(focus (first | (simp [stR,uT,uH,ren1,nmI,renI];done) | (simp [stR,uT,uH,ren1,nmI,renI];rfl)));rotate_left 1;dsimp only at h;rotate_right 1)
    | (revert r;(refine fL ?_ ?_ ?_ ?_ (fun n x s hx f1 f2 f3 f4 f5 f6 f7 r h=>?_) (fun s fl=>?_) (fun x r h=>?_) ?_ ?_ ?_);(focus assumption)
       rotate_left 6;(focus (first | (simp [stR,uT,uH,ren1,nmI,renI];done) | (simp [stR,uT,uH,ren1,nmI,renI];rfl)));(focus (first | (simp [stR,uT,uH,ren1,nmI,renI];done) | (simp [stR,uT,uH,ren1,nmI,renI];rfl)));(focus infer_instance)
       rotate_left 1;(first | refine unB x ?_ | refine unO ?_ | skip);rotate_left 2;dsimp only at h;rotate_right 3)
    | (revert r;(refine wL ?_ ?_ ?_ (fun s r h=>?_) (fun x r h=>?_) ?_ ?_ ?_)
       rotate_left 5;(focus (first | (simp [stR,uT,uH,ren1,nmI,renI];done) | (simp [stR,uT,uH,ren1,nmI,renI];rfl)));(focus (first | (simp [stR,uT,uH,ren1,nmI,renI];done) | (simp [stR,uT,uH,ren1,nmI,renI];rfl)));(focus infer_instance)
       rotate_left 2;dsimp only at h;rotate_right 2)
    | ((first | refine pF_t ?_ ?_ ?_ | refine pF_g ?_ ?_ ?_);rotate_left 1;focus (first | (simp [frzS];done) | (simp [frzS];rfl)))
    | ((first | refine pN_t ?_ ?_ ?_ ?_ | refine pN_g ?_ ?_ ?_ ?_);rotate_left 1;(focus (first | rfl | (simp [*];done)));focus (first | (simp [ownS];done) | (simp [ownS];rfl)))
    | ((first | refine pC_t ?_ ?_ ?_ | refine pC_g ?_ ?_ ?_);rotate_left 1;focus (first | (simp [celS,celL];done) | (simp [celS,celL];rfl)))
    | ((first | refine pS_t ?_ ?_ ?_ ?_ | refine pS_g ?_ ?_ ?_ ?_);rotate_left 1;(focus (first | (simp [*];done) | (simp_all;done)));focus (first | (simp [shrS];done) | (simp [shrS];rfl)))
    | ((first | refine pB_t ?_ ?_ ?_ | refine pB_g ?_ ?_ ?_);rotate_left 1;focus (first | (simp [movB, *];done) | (simp [movB, *];rfl)))
    | ((first | refine pM_t ?_ ?_ ?_ | refine pM_g ?_ ?_ ?_);rotate_left 1;focus (first | (simp [movS, *];done) | (simp [movS, *];rfl)))
    | ((with_reducible refine lS ?_);(try simp [*]);refine Y3d (fun hlim=>?_))
    | ((with_reducible apply lE);(focus rfl);(focus assumption);(focus (first | rfl | (simp;done)));intro hlim)
    | ((with_reducible refine lC ?_ ?_);(focus (simp [*];done));intro hlim)
    | ((with_reducible refine lL ?_);(try simp [*]);refine Y3c (Nat.le_of_ble_eq_true rfl) (fun hlim=>?_))
    | (with_reducible first | refine sqR ?_ | refine bkR ?_)
    | ((with_reducible refine gHn ?_);(apply gL hβ)
       focus (repeat' first
        | exact InfR.n
        | (apply InfR.l;focus decide)
        | (apply InfR.h;focus ((repeat first | exact FndR.p rfl | exact FndR.s rfl | exact FndR.m rfl | apply FndR.t);done))
        | (apply InfR.b;focus ((repeat first | (apply FndB.h;exact rfl;exact rfl;exact rfl;exact rfl;(repeat first | exact FndC.s | apply FndC.t);done) | apply FndB.t);done))
        | (apply InfR.c;(focus ((repeat first | exact FndR.p rfl | exact FndR.s rfl | exact FndR.m rfl | apply FndR.t);done));exact rfl;exact rfl;exact rfl;exact rfl;focus ((repeat first | exact FndC.s | apply FndC.t);done)))
       focus decide
       focus (repeat first
        | exact TG.z
        | refine TG.a ?_
        | (refine TG.q ?_ ?_ ?_;rotate_left 1;(focus rfl);(focus decide))
        | (refine TG.c ?_ ?_ ?_;rotate_left 1;(focus (first | rfl | (simp [rnm0, *];done)));(focus (simp [Q7z];done)))
        | (refine TG.r ?_ ?_ ?_;rotate_left 1;(focus (first | rfl | (simp [*];done)));(focus decide))
        | (refine TG.n ?_ ?_ ?_;rotate_left 1;(focus (first | rfl | (simp [*];done)));(focus decide))
        | (refine TG.f ?_ ?_ ?_;rotate_left 1;(focus (first | rfl | (simp [*];done)));(focus (first | (simp;done) | exact Fr1.pf)))
        | (refine TG.d ?_ ?_ ?_;rotate_left 1;(focus (first | rfl | (simp [*];done)));(focus (first | rfl | (simp [*];done))))
        | (refine TG.g ?_ ?_;rotate_left 1;(focus (simp [AgOk,cOk,c0Ok,cpOk, *];done)))
        | (refine TG.w ?_ ?_;rotate_left 1;(focus (simp [cOk,c0Ok,cpOk, *];done)))
        | (refine TG.r ?_ ?_ ?_;rotate_left 1;(focus (simp only [Sl] at *;simp [*];done));(focus decide))
        | (refine TG.n ?_ ?_ ?_;rotate_left 1;(focus (simp only [Sl] at *;simp [*];done));(focus decide))
        | (refine TG.f ?_ ?_ ?_;rotate_left 1;(focus (simp only [Sl] at *;simp [*];done));(focus (first | (simp;done) | exact Fr1.pf)))
        | (refine TG.d ?_ ?_ ?_;rotate_left 1;(focus (simp only [Sl] at *;simp [*];done));(focus (simp only [Sl] at *;simp [*];done)))
        | (refine TG.g ?_ ?_;rotate_left 1;(focus (simp only [Sl] at *;simp [AgOk,cOk,c0Ok,cpOk, *];done)))
        | (refine TG.w ?_ ?_;rotate_left 1;(focus (simp only [Sl] at *;simp [cOk,c0Ok,cpOk, *];done))))
       focus (repeat first
        | exact All2.nil
        | refine All2.cons V7y ?_
        | (refine All2.cons (lF ?_ ?_) ?_;(focus (first | rfl | (simp [*];done)));(focus (simp;done)))
        | (refine All2.cons (lG ?_) ?_;(focus (simp [LcOk,cOk,c0Ok,cpOk, *];done)))
        | (apply All2.cons;focus (apply lU;exact rfl;exact rfl;(focus (simp;done));exact rfl;assumption;(focus (first | (simp [cOk,c0Ok,cpOk, *];done) | (simp only [Sl] at *;simp [cOk,c0Ok,cpOk, *];done) | (simp only [Sl] at *;simp [cOk,c0Ok,cpOk, *];omega)));(focus (simp;done))))
        | (apply All2.cons;focus (apply lA;exact rfl;exact rfl;(focus (simp;done));(focus (first | rfl | (simp;done) | (simp;rfl) | (simp only [Sl] at *;simp [*];rfl)));(focus (first | (simp [cOk,c0Ok,cpOk, *];done) | (simp only [Sl] at *;simp [cOk,c0Ok,cpOk, *];done) | (simp only [Sl] at *;simp [cOk,c0Ok,cpOk, *];omega)));(focus (simp;done))))
        | (apply All2.cons;focus (apply lH;exact rfl;exact rfl;(focus (simp;done));(focus (first | rfl | (simp;done) | (simp;rfl) | (simp only [Sl] at *;simp [*];rfl)));(focus (first | (simp [cOk,c0Ok,cpOk, *];done) | (simp only [Sl] at *;simp [cOk,c0Ok,cpOk, *];done) | (simp only [Sl] at *;simp [cOk,c0Ok,cpOk, *];omega)));(focus (simp;done))))
        | (refine All2.cons (lF ?_ ?_) ?_;(focus (simp only [Sl] at *;simp [*];done));(focus (simp;done)))
        | (refine All2.cons (lG ?_) ?_;(focus (simp only [Sl] at *;simp [LcOk,cOk,c0Ok,cpOk, *];done))))
       focus decide
       rfl)
    | ((with_reducible refine eD ?_);(first | simp [resD, *] | skip);first
        | (refine endF ?_ ?_;(focus (simp;done));(focus (simp [Z2y, *];done)))
        | (refine eDvt rfl ?_ ?_ ?_;(focus (simp [vwL,vw1,vw0,vwC, *];done));(focus (simp [vwL,vw1,vw0,vwC, *];done));(focus (simp;done)))
        | (refine eDv1 ?_ ?_ ?_;(focus (simp [vwL,vw1,vw0,vwC, *];done));(focus (simp [vwL,vw1,vw0,vwC, *];done));(focus (simp;done)))
        | (simp only [Sl] at *;first
            | (refine eDvt rfl ?_ ?_ ?_;(focus (simp [vwL,vw1,vw0,vwC, *];done));(focus (simp [vwL,vw1,vw0,vwC, *];done));(focus (simp;done)))
            | (refine eDv1 ?_ ?_ ?_;(focus (simp [vwL,vw1,vw0,vwC, *];done));(focus (simp [vwL,vw1,vw0,vwC, *];done));(focus (simp;done))))
        | (refine endF ?_ ?_;(focus (simp;done));(focus (simp_all [Z2y];done))))
    | ((first | refine eHt ?_ ?_ ?_ ?_ | refine eH1 ?_ ?_ ?_ ?_)
       rotate_left 1
       focus (first | (simp [slX,lcX,Z79];done) | (simp [slX,lcX,Z79];rfl))
       rotate_left 1
       focus (first | exact eA | (dsimp only [resD];exact eA) | (simp [resD];refine eXa rfl rfl ?_ ?_ ?_ ?_;(focus (simp [Q8o,Q7z];done));(focus (simp;first | done | exact Q6 FrR.pf _));(focus (simp;done));(focus (simp;done)))))
    | (exfalso;(try clear hK);(try clear h);simp_all;done))
  : G:=(h f e).pf
end Go.Proofs.YtenmmbjgnlflnaaGreat
