import Derived.Test.YtenmmbjgnlflnaaGreatJZip
set_option linter.unusedSimpArgs false
set_option linter.unusedVariables false
namespace Go.Proofs.YtenmmbjgnlflnaaGreat
open Go Go.RowKit
theorem Q5c {l:List Nat}{k:Nat}(h:k<l.length):l[k]?=some (l.getD k 0):=by simp [List.getD,h]
theorem VG.q {σ:St}{l:List Nat}{τ:Nat→D}(h:VG σ l τ){s sz k' i j:Nat}(h1:σ.t s=.ptr sz (l.getD k' 0) i j)(h2:k'<l.length):VG σ l (updD τ s (.ptr sz k' i j)):=h.p _ h1 (Q5c h2)
theorem VG.r {σ:St}{l:List Nat}{τ:Nat→D}(h:VG σ l τ){s sz k' n:Nat}(h1:σ.t s=.sl sz (l.getD k' 0) n)(h2:k'<l.length):VG σ l (updD τ s (.sl sz k' n)):=h.s _ h1 (Q5c h2)
theorem VG.n {σ:St}{l:List Nat}{τ:Nat→D}(h:VG σ l τ){s k':Nat}(h1:σ.t s=.mp (l.getD k' 0))(h2:k'<l.length):VG σ l (updD τ s (.mp k')):=h.m _ h1 (Q5c h2)
theorem VG.d {σ:St}{l:List Nat}{τ:Nat→D}(h:VG σ l τ){s:Nat}{d:D}(h1:Free (σ.t s))(h2:(σ.t s).le d):VG σ l (updD τ s d):=h.e _ rfl h1 h2
theorem LG.d {σ:St}{l ks:List Nat}{Hs:List (Option Loc)}(h:LG σ l ks Hs){q:Nat}{L L':Loc}(h1:σ.h q=some L)(h2:L'.rows=L.rows)(h3:∀ row∈L'.rows,∀ d∈row,Free d)(h4:L'.sz=L.sz)(h5:L'.el=L.el)(h6:L'.fz=L.fz) :
  LG σ l (q::ks) (some L'::Hs):=h.e L h1 h2 (h2▸h3) h4 h5 h6
theorem LG.g {σ:St}{l ks:List Nat}{Hs:List (Option Loc)}(h:LG σ l ks Hs){q:Nat}{L L':Loc}(h1:σ.h q=some L)(h2:Q8c σ (fun k=>l[k]?) L.rows L'.rows)(h4:L'.sz=L.sz)(h5:L'.el=L.el)(h6:L'.fz=L.fz) :
  LG σ l (q::ks) (some L'::Hs):=h.c (lv h1 h4 h5 h6 h2)
variable {β:Base} {σ:St} {Q:Exit→St→Prop}
theorem eA {m:Nat}{R:List (Option Loc)→D→Prop}{τ:Nat→D}{l:List (Option Loc)}{nx n:Nat}{ds:List D}(hq:R l (Q95 ds):=by simp [Q95])(h1:nx≤l.length:=by simp)(h2:m≤l.length:=by simp):EndH m R ⟨τ,hOfO l,nx,n⟩ ds:=
 ⟨l,[],by simp,by simpa using h1,h2,.inl rfl,hq⟩
end Go.Proofs.YtenmmbjgnlflnaaGreat
