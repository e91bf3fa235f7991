import Derived.Test.YtenmmbjgnlflnaaGreatBJDat
import Derived.Test.YtenmmbjgnlflnaaGreatBJTys
set_option linter.unusedSimpArgs false
set_option linter.unusedVariables false
namespace Go.Proofs.YtenmmbjgnlflnaaGreat
open Go Go.RowKit
def VG (σ:St)(l:List Nat)(τ:Nat→D):Prop:=∀ i,RenV σ (fun k=>l[k]?) (σ.t i) (τ i)
theorem va {σ:St}{l:List Nat} : VG σ l (fun _=>.any):=W6r _
theorem VG.f {σ:St}{l:List Nat}{τ:Nat→D}(h:VG σ l τ){s:Nat}{d:D}(h1:σ.t s=d:=by simp)(h2:Free d:=by simp):VG σ l (updD τ s d):=Z83 (v_of h1 (Z4w h2 (le_refl d))) h
theorem VG.e {σ:St}{l:List Nat}{τ:Nat→D}(h:VG σ l τ){s:Nat}{d:D}(d0:D)(h1:σ.t s=d0:=by simp)(h2:Free d0:=by simp)(h3:d0.le d:=by simp):VG σ l (updD τ s d):=Z83 (v_of h1 (Z4w h2 h3)) h
theorem VG.p {σ:St}{l:List Nat}{τ:Nat→D}(h:VG σ l τ){s sz k' i j:Nat}(k:Nat)(h1:σ.t s=.ptr sz k i j:=by simp)(h2:l[k']?=some k:=by rfl):VG σ l (updD τ s (.ptr sz k' i j)):=Z83 (v_of h1 (V25 h2)) h
theorem VG.s {σ:St}{l:List Nat}{τ:Nat→D}(h:VG σ l τ){s sz k' n:Nat}(k:Nat)(h1:σ.t s=.sl sz k n:=by simp)(h2:l[k']?=some k:=by rfl):VG σ l (updD τ s (.sl sz k' n)):=Z83 (v_of h1 (v_sl h2)) h
theorem VG.m {σ:St}{l:List Nat}{τ:Nat→D}(h:VG σ l τ){s k':Nat}(k:Nat)(h1:σ.t s=.mp k:=by simp)(h2:l[k']?=some k:=by rfl):VG σ l (updD τ s (.mp k')):=Z83 (v_of h1 (v_mp h2)) h
theorem VG.u {σ:St}{l:List Nat}{τ:Nat→D}(h:VG σ l τ){s:Nat}{d0 d:D}(h1:σ.t s=d0)(hv:RenV σ (fun k=>l[k]?) d0 d):VG σ l (updD τ s d):=Z83 (v_of h1 hv) h
def LG (σ:St)(l ks:List Nat)(Hs:List (Option Loc)):Prop:=All2 (LocV σ l) ks Hs
theorem ln {σ:St}{l:List Nat} : LG σ l [] []:=.nil
theorem LG.c {σ:St}{l ks:List Nat}{Hs:List (Option Loc)}(h:LG σ l ks Hs){q:Nat}{x:Option Loc}(hx:LocV σ l q x):LG σ l (q::ks) (x::Hs):=.cons hx h
theorem LG.f {σ:St}{l ks:List Nat}{Hs:List (Option Loc)}(h:LG σ l ks Hs){q sz el fz:Nat}{rows:List (List D)}(h1:σ.h q=some ⟨sz,rows,el,fz⟩:=by simp)(h2:∀ row∈rows,∀ d∈row,Free d:=by first | (simp;done) | exact X4v _ | exact Q6 Q95 _ | exact Q6 Q6u _ | exact Q6 Q7w _ | exact Q6 Z2n _ | exact Q6 Q8u _ | exact Q6 Z2j _ | exact Q6 Z2l _ | exact Q6 Z2m _) :
  LG σ l (q::ks) (some ⟨sz,rows,el,fz⟩::Hs):=.cons (lv h1 rfl rfl rfl (Q4c rfl h2)) h
theorem LG.e {σ:St}{l ks:List Nat}{Hs:List (Option Loc)}(h:LG σ l ks Hs){q:Nat}{L':Loc}(L:Loc)(h1:σ.h q=some L:=by simp)(h2:L'.rows=L.rows:=by simp)(h3:∀ row∈L.rows,∀ d∈row,Free d:=by first | (simp;done) | exact X4v _ | exact Q6 Q95 _ | exact Q6 Q6u _ | exact Q6 Q7w _ | exact Q6 Z2n _ | exact Q6 Q8u _ | exact Q6 Z2j _ | exact Q6 Z2l _ | exact Q6 Z2m _)(h4:L'.sz=L.sz:=by rfl)(h5:L'.el=L.el:=by rfl)(h6:L'.fz=L.fz:=by rfl) :
  LG σ l (q::ks) (some L'::Hs):=.cons (lv h1 h4 h5 h6 (Q4c h2.symm h3)) h
theorem gc {β:Base}{σ:St}{m:Nat}(l:List Nat){Hs:List (Option Loc)}{τ:Nat→D}(hβ:∀ k x,β.c0.M k=some x→k<m)(ht:VG σ l τ)(hh:LG σ l l Hs)(hm:(List.range m).all (fun k=>l[k]?==some k)=true:=by decide)(hl:l.Nodup:=by decide) :
  V3 β σ ⟨τ,hOfO Hs,l.length,σ.n⟩:=V3.canonV m l Hs τ hβ (Z4j hm) hl ht hh
variable {β:Base} {σ:St} {Q:Exit→St→Prop}
theorem rk {id:Nat}{ops:Array Oper}(h:∀ K:St→Prop,(∀ s,Q .normal s→K s)→runL Tryz.prog Tys ops ops.toList σ K):TrD Tryz.prog β (.region id ops false) σ Q:=TrD.regK Z73 h
theorem sk {id:Nat}{ops:Array Oper}{y:Code}(h:∀ K:St→Prop,(∀ s,TrD Tryz.prog β y s Q→K s)→runL Tryz.prog Tys ops ops.toList σ K):TrD Tryz.prog β (.seq (.region id ops false) y) σ Q:=TrD.seq (TrD.regK Z73 h)
theorem sq {P:Program}{x y:Code}(h:TrD P β x σ (fun e σ'=>match e with | .normal=>TrD P β y σ' Q | e=>Q e σ')):TrD P β (.seq x y) σ Q:=TrD.seq h
theorem cT {P:Program}{x:Operand}{th el:Code}(h1:TrD P β th σ Q)(hx:σ.get x=.val (.bool true):=by simp):TrD P β (.cond x th el) σ Q:=TrD.cond (b:=true) hx (fun _=>h1) (fun h=>by cases h)
theorem cF {P:Program}{x:Operand}{th el:Code}(h1:TrD P β el σ Q)(hx:σ.get x=.val (.bool false):=by simp):TrD P β (.cond x th el) σ Q:=TrD.cond (b:=false) hx (fun h=>by cases h) (fun _=>h1)
theorem bb (b:Bool):b=true∨b=false:=Bool.eq_false_or_eq_true b
theorem nt {b:Bool}(h:b=false):¬b=true:=W3t h
theorem cp {P:Program}{σ:St}{f:FuncId}{args args':List D}{K:(Nat→Option Loc)→D→Prop}{x:D}(h:Q7 P f args' (fun d=>d=x))(hK:K σ.h x)(hle:All2 D.le args args':=by simp)(hf:∀ d∈args',Free d:=by simp):Q8n P σ f args K:=Y8v h hle hf fun r hr=>by rw [hr];exact hK
theorem CD {fn:Func}{f:FuncId}{body:Code}{args:List D}{Q:D→Prop}(hf:Tryz.prog.funcs[f]?=some fn)(res:List ResultVar){n:Nat}
  (h:∀ β:Base,(∀ k x,β.c0.M k=some x→k<0)→TrD Tryz.prog β body ⟨fun i=>args.getD i (.val undef),fun _=>none,0,n⟩ (W1b Tys β res Q))
  (hname : (fn.name == "runtime.NumGoroutine") = false := by decide) (hb : fn.body = some body := by rfl) (hn : args.length ≤ fn.ntmps := by exact Nat.le_of_ble_eq_true rfl) (hres : fn.results.toList = res := by rfl) (hnt : fn.ntmps = n := by rfl) : Q7 Tryz.prog f args Q :=
 Q7.of Z73 hf hname hb hn hres hnt fun β hβ=>h β fun k x hx=>by rw [hβ] at hx;cases hx
theorem CH {fn:Func}{f:FuncId}{body:Code}{H:List Loc}{args:List D}{Q:List (Option Loc)→D→Prop}(hf:Tryz.prog.funcs[f]?=some fn)(res:List ResultVar){n:Nat}(m:Nat)
  (h:∀ β:Base,(∀ k x,β.c0.M k=some x→k<m)→TrD Tryz.prog β body ⟨fun i=>args.getD i (.val undef),hOf H,H.length,n⟩ (X8i Tys β H.length res Q))
  (hname : (fn.name == "runtime.NumGoroutine") = false := by decide) (hb : fn.body = some body := by rfl) (hn : args.length ≤ fn.ntmps := by exact Nat.le_of_ble_eq_true rfl) (hres : fn.results.toList = res := by rfl) (hnt : fn.ntmps = n := by rfl) (hm : H.length = m := by rfl) : Q12 Tryz.prog f H args Q :=
 Q12.of Z73 hf hname hb hn hres hnt fun β hβ=>h β (hm▸hβ)
end Go.Proofs.YtenmmbjgnlflnaaGreat
