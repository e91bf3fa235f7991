import Derived.Test.YtenmmbjgnlflnaaGreatBJZip
set_option linter.unusedSimpArgs false
set_option linter.unusedVariables false
namespace Go.Proofs.YtenmmbjgnlflnaaGreat
open Go Go.RowKit
theorem Q8m {l:List Nat}{k:Nat}(h:k<l.length):l[k]?=some (l.getD k 0):=by simp [List.getD,h]
theorem VG.q {σ:St}{l:List Nat}{τ:Nat→D}(h:VG σ l τ){s sz k' i j:Nat}(h1:σ.t s=.ptr sz (l.getD k' 0) i j)(h2:k'<l.length):VG σ l (updD τ s (.ptr sz k' i j)):=h.p _ h1 (Q8m h2)
theorem VG.r {σ:St}{l:List Nat}{τ:Nat→D}(h:VG σ l τ){s sz k' n:Nat}(h1:σ.t s=.sl sz (l.getD k' 0) n)(h2:k'<l.length):VG σ l (updD τ s (.sl sz k' n)):=h.s _ h1 (Q8m h2)
theorem VG.n {σ:St}{l:List Nat}{τ:Nat→D}(h:VG σ l τ){s k':Nat}(h1:σ.t s=.mp (l.getD k' 0))(h2:k'<l.length):VG σ l (updD τ s (.mp k')):=h.m _ h1 (Q8m h2)
theorem VG.d {σ:St}{l:List Nat}{τ:Nat→D}(h:VG σ l τ){s:Nat}{d:D}(h1:Free (σ.t s))(h2:(σ.t s).le d):VG σ l (updD τ s d):=h.e _ rfl h1 h2
theorem LG.d {σ:St}{l ks:List Nat}{Hs:List (Option Loc)}(h:LG σ l ks Hs){q:Nat}{L L':Loc}(h1:σ.h q=some L)(h2:L'.rows=L.rows)(h3:∀ row∈L'.rows,∀ d∈row,Free d)(h4:L'.sz=L.sz)(h5:L'.el=L.el)(h6:L'.fz=L.fz) :
  LG σ l (q::ks) (some L'::Hs):=h.e L h1 h2 (h2▸h3) h4 h5 h6
theorem LG.g {σ:St}{l ks:List Nat}{Hs:List (Option Loc)}(h:LG σ l ks Hs){q:Nat}{L L':Loc}(h1:σ.h q=some L)(h2:Z1x σ (fun k=>l[k]?) L.rows L'.rows)(h4:L'.sz=L.sz)(h5:L'.el=L.el)(h6:L'.fz=L.fz) :
  LG σ l (q::ks) (some L'::Hs):=h.c (lv h1 h4 h5 h6 h2)
theorem rowV {σ:St}{ρ:Nat→Option Nat}{a b:List D}(h:All2 (RenV σ ρ) a b:=by
 repeat first
  | exact All2.nil
  | (refine All2.cons (Z4w ?_ ?_) ?_;(focus (simp;done));(focus (simp;done)))
  | refine All2.cons (V25 rfl) ?_
  | refine All2.cons (v_sl rfl) ?_
  | refine All2.cons (v_mp rfl) ?_):All2 (RenV σ ρ) a b:=h
theorem gC {β:Base}{σ:St}{m:Nat}(l:List Nat){Hs:List (Option Loc)}{τ:Nat→D}(hβ:∀ k x,β.c0.M k=some x→k<m:=by assumption)
  (ht:VG σ l τ:=by
   repeat first
    | exact va
    | (refine VG.f ?_ ?_ ?_;rotate_left 1;(focus (simp;done));(focus (simp;done)))
    | (refine VG.q ?_ ?_ ?_;rotate_left 1;(focus (simp;done));(focus decide))
    | (refine VG.r ?_ ?_ ?_;rotate_left 1;(focus (simp;done));(focus decide))
    | (refine VG.n ?_ ?_ ?_;rotate_left 1;(focus (simp;done));(focus decide))
    | (refine VG.d ?_ ?_ ?_;rotate_left 1;(focus (simp;done));(focus (simp;done))))
  (hh:LG σ l l Hs:=by
   repeat first
    | exact ln
    | (refine LG.f ?_ ?_ ?_;rotate_left 1;(focus (simp;done));(focus (first | (simp;done) | exact X4v _ | exact Q6 Q95 _ | exact Q6 Q6u _ | exact Q6 Q7w _ | exact Q6 Z2n _ | exact Q6 Q8u _ | exact Q6 Z2j _ | exact Q6 Z2l _ | exact Q6 Z2m _)))
    | (refine LG.d ?_ ?_ ?_ ?_ ?_ ?_ ?_;rotate_left 1;(focus rfl);(focus (simp;done));(focus (first | (simp;done) | exact X4v _ | exact Q6 Q95 _ | exact Q6 Q6u _ | exact Q6 Q7w _ | exact Q6 Z2n _ | exact Q6 Q8u _ | exact Q6 Z2j _ | exact Q6 Z2l _ | exact Q6 Z2m _));(focus rfl);(focus rfl);(focus rfl))
    | (refine LG.g ?_ rfl (Q7n (X6s _) ?_ Z5s) rfl rfl rfl;rotate_left 1;(focus (exact rowV)))
    | (refine LG.g ?_ rfl (Q7n (W3p _) ?_ Z5s) rfl rfl rfl;rotate_left 1;(focus (exact rowV)))
    | (refine LG.g ?_ rfl (Q7n (X9j _) ?_ Z5s) rfl rfl rfl;rotate_left 1;(focus (exact rowV)))
    | (refine LG.g ?_ rfl (Q7n (W7g _) ?_ Z5s) rfl rfl rfl;rotate_left 1;(focus (exact rowV)))
    | (refine LG.g ?_ rfl (Q7n (W7h _) ?_ Z5s) rfl rfl rfl;rotate_left 1;(focus (exact rowV)))
    | (refine LG.g ?_ rfl (Z3b ?_ Z5s) rfl rfl rfl;rotate_left 1;(focus (exact rowV))))
  (hm:(List.range m).all (fun k=>l[k]?==some k)=true:=by decide) (hl:l.Nodup:=by decide) :
  V3 β σ ⟨τ,hOfO Hs,l.length,σ.n⟩:=gc l hβ ht hh hm hl
variable {β:Base} {σ:St} {Q:Exit→St→Prop}
theorem rZ {id:Nat}{ops:Array Oper}{σ':St}(h:Q .normal σ')(hr:∀ K:St→Prop,K σ'→runL Tryz.prog Tys ops ops.toList σ K:=by intro K k;simp;exact k):TrD Tryz.prog β (.region id ops false) σ Q:=rk fun K hK=>hr K (hK _ h)
theorem sZ {id:Nat}{ops:Array Oper}{y:Code}{σ':St}(h:TrD Tryz.prog β y σ' Q)(hr:∀ K:St→Prop,K σ'→runL Tryz.prog Tys ops ops.toList σ K:=by intro K k;simp;exact k):TrD Tryz.prog β (.seq (.region id ops false) y) σ Q:=sk fun K hK=>hr K (hK _ h)
theorem eA {m:Nat}{R:List (Option Loc)→D→Prop}{τ:Nat→D}{l:List (Option Loc)}{nx n:Nat}{ds:List D}(hq:R l (Z2y ds):=by simp [Z2y])(h1:nx≤l.length:=by simp)(h2:m≤l.length:=by simp):EndH m R ⟨τ,hOfO l,nx,n⟩ ds:=
 ⟨l,[],by simp,by simpa using h1,h2,.inl rfl,hq⟩
end Go.Proofs.YtenmmbjgnlflnaaGreat
