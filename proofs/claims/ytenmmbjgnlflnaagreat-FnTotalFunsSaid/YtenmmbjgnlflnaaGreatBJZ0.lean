import Derived.KernelRfl
set_option linter.unusedSimpArgs false
set_option linter.unusedVariables false
namespace Go.Proofs.YtenmmbjgnlflnaaGreat.Zed
def Sg (f:Nat→Int)(a:Nat):Nat→Int
 | 0=>0
 | n+1=>Sg f a n+f (a+n)
theorem Z8n (f:Nat→Int)(a n:Nat):∀ m,Sg f a (n+m)=Sg f a n+Sg f (a+n) m
 | 0=>by simp [Sg]
 | m+1=>by rw [←Nat.add_assoc,Sg,Z8n f a n m,Sg,Nat.add_assoc a n m];omega
theorem X2x {f g:Nat→Int}{a:Nat} : ∀ {n:Nat},(∀ i,a≤i→i<a+n→f i≤g i)→Sg f a n≤Sg g a n
 | 0,_=>by simp [Sg]
 | n+1,h=>by
  have:=X2x (n:=n) fun i h1 h2=>h i h1 (by omega)
  have:=h (a+n) (by omega) (by omega)
  simp only [Sg];omega
theorem Z0u {f g:Nat→Int}{a n:Nat}(h:∀ i,a≤i→i<a+n→f i=g i):Sg f a n=Sg g a n:=
 Int.le_antisymm (X2x fun i h1 h2=>by rw [h i h1 h2];omega) (X2x fun i h1 h2=>by rw [h i h1 h2];omega)
theorem Q78 (c:Int)(a:Nat):∀ n:Nat,Sg (fun _=>c) a n=n * c
 | 0=>by simp [Sg]
 | n+1=>by rw [Sg,Q78 c a n];simp [Int.add_mul]
theorem Z7z (f g:Nat→Int)(a:Nat):∀ n:Nat,Sg (fun i=>f i+g i) a n=Sg f a n+Sg g a n
 | 0=>by simp [Sg]
 | n+1=>by rw [Sg,Z7z f g a n,Sg,Sg];omega
theorem X3u (c:Int)(f:Nat→Int)(a:Nat):∀ n:Nat,Sg (fun i=>c * f i) a n=c * Sg f a n
 | 0=>by simp [Sg]
 | n+1=>by rw [Sg,X3u c f a n,Sg,Int.mul_add]
theorem Z4p (f:Nat→Int)(a b:Nat):∀ n:Nat,Sg f (a+b) n=Sg (fun i=>f (i+b)) a n
 | 0=>by simp [Sg]
 | n+1=>by rw [Sg,Z4p f a b n,Sg,show a+b+n=a+n+b by omega]
theorem V0p (f:Nat→Int)(L j0:Nat):∀ J:Nat,Sg f (j0 * L) (J * L)=Sg (fun k=>Sg (fun j=>f (k+j * L)) j0 J) 0 L
 | 0=>by simp [Sg,Q78]
 | J+1=>by
  rw [Nat.add_mul,Nat.one_mul,Z8n,V0p f L j0 J]
  have e:j0 * L+J * L=0+(j0+J) * L:=by rw [Nat.add_mul];omega
  rw [e,Z4p,←Z7z]
  exact Z0u fun i _ _=>by rw [Sg]
theorem X22 (f:Nat→Int)(a n:Nat):∀ V:Nat,Sg f a (V * n)=Sg (fun s=>Sg (fun i=>f (s+i * n)) 0 V) a n
 | 0=>by simp [Sg,Q78]
 | V+1=>by
  rw [Nat.add_mul,Nat.one_mul,Z8n,X22 f a n V,Z4p,←Z7z]
  exact Z0u fun i _ _=>by rw [Sg,Nat.zero_add]
def yv (x:Nat):Nat:=(x ^^^ (x / 64)) % 24
def three (x:Nat):Int:=if yv x=3 then 1 else 0
def hot (z:Nat):Nat:=if Nat.xor (z % 8) (z / 64 % 8)=3 then 1 else 0
theorem Z5n (x:Nat):three x≤(hot (x % 512):Int):=by
 unfold three
 split
 ·rename_i h
  have h8:(x ^^^ (x / 64)) % 2 ^ 3=3:=by unfold yv at h;omega
  rw [Nat.xor_mod_two_pow] at h8
  have e1:x % 512 % 8=x % 2 ^ 3:=by omega
  have e2:x % 512 / 64 % 8=x / 64 % 2 ^ 3:=by omega
  unfold hot
  rw [e1,e2,if_pos (show Nat.xor _ _=3 from h8)];simp
 ·omega
def hot4 (z:Nat):Nat:=hot z+hot ((z+128) % 512)+hot ((z+256) % 512)+hot ((z+384) % 512)
theorem V43:(List.range 512).all (fun z=>decide (hot4 z≤1))=true:=by kernel_rfl
theorem V8d {z:Nat}(h:z<512):hot4 z≤1:=by simpa using List.all_eq_true.1 V43 z (List.mem_range.2 h)
theorem V2a:(List.range 512).all (fun d=>decide (d % 256=0)||(List.range 512).any fun h=>decide (h * d % 512=128))=true:=by kernel_rfl
theorem V76 {D:Nat}(h:D % 256≠0):∃ k,0<k∧k<512∧k * D % 512=128:=by
 have:=List.all_eq_true.1 V2a (D % 512) (List.mem_range.2 (by omega))
 simp only [Bool.or_eq_true,decide_eq_true_eq,List.any_eq_true,List.mem_range] at this
 rcases this with h1 | ⟨k,h1,h2⟩
 ·omega
 ·refine ⟨k,?_,h1,by rw [Nat.mul_mod,Nat.mod_mod] at *;simpa [Nat.mul_mod] using h2⟩
  rcases Nat.eq_zero_or_pos k with rfl | h0
  ·simp at h2
  ·exact h0
theorem four {D k:Nat}(h:k * D % 512=128)(c a:Nat):Sg (fun j=>three (c+j * D)) a (4 * k)≤k:=by
 rw [X22]
 refine Int.le_trans (X2x (g:=fun _=>1) fun s _ _=>?_) (by rw [Q78];omega)
 simp only [Sg,Nat.zero_add,Nat.zero_mul,Nat.one_mul,Nat.add_zero]
 generalize hx:c+s * D=x
 have e:∀ i,c+(s+i * k) * D=x+i * (k * D):=fun i=>by rw [Nat.add_mul,Nat.mul_assoc];omega
 have e1:=e 1;have e2:=e 2;have e3:=e 3
 rw [Nat.one_mul] at e1
 have t0:=Z5n x
 have t1:=Z5n (c+(s+k) * D)
 have t2:=Z5n (c+(s+2 * k) * D)
 have t3:=Z5n (c+(s+3 * k) * D)
 rw [e1] at t1 ⊢;rw [e2] at t2 ⊢;rw [e3] at t3 ⊢
 have hz:=V8d (z:=x % 512) (by omega)
 unfold hot4 at hz
 generalize k * D=y at *
 rw [show (x+1 * y) % 512=(x % 512+128) % 512 by omega] at t1
 rw [show (x+2 * y) % 512=(x % 512+256) % 512 by omega] at t2
 rw [show (x+3 * y) % 512=(x % 512+384) % 512 by omega] at t3
 omega
def Gq (q:Nat):Nat:=q ^^^ (q / 64)
theorem Q29 (s q:Nat)(hs:s<256):((256 * q+s) ^^^ ((256 * q+s) / 64))=256 * Gq q+4 * ((s / 4) ^^^ (q % 64))+((s ^^^ (s / 64)) % 4)∧(s / 4) ^^^ (q % 64)<64:=by
 have hx64:(256 * q+s) / 64=4 * q+s / 64:=by omega
 rw [hx64]
 generalize hy:(256 * q+s) ^^^ (4 * q+s / 64)=y
 have h4:y % 2 ^ 2=(s ^^^ (s / 64)) % 4:=by
  rw [←hy,Nat.xor_mod_two_pow,show (4:Nat)=2 ^ 2 from rfl,Nat.xor_mod_two_pow,show (256 * q+s) % 2 ^ 2=s % 2 ^ 2 by omega,show (2 ^ 2 * q+s / 64) % 2 ^ 2=s / 64 % 2 ^ 2 by omega]
 have hd:y / 2 ^ 2=(64 * q+s / 4) ^^^ q:=by
  rw [←hy,Nat.xor_div_two_pow,show (256 * q+s) / 2 ^ 2=64 * q+s / 4 by omega,show (4 * q+s / 64) / 2 ^ 2=q by omega]
 have hm:(y / 2 ^ 2) % 2 ^ 6=(s / 4) ^^^ (q % 64):=by
  rw [hd,Nat.xor_mod_two_pow,show (64 * q+s / 4) % 2 ^ 6=s / 4 by omega,show (2:Nat) ^ 6=64 from rfl]
 have hh:(y / 2 ^ 2) / 2 ^ 6=Gq q:=by
  rw [hd,Nat.xor_div_two_pow,show (64 * q+s / 4) / 2 ^ 6=q by omega,Gq]
 have hl:(s / 4) ^^^ (q % 64)<64:=by rw [←hm];omega
 refine ⟨?_,hl⟩
 rw [←hh,←hm,←h4]
 omega
theorem V27 {s q:Nat}(hs:s<256)(h:yv (256 * q+s)=3):(s ^^^ (s / 64)) % 4=3∧((s / 4) ^^^ (q % 64)) % 2=0∧(Gq q % 3+((s / 4) ^^^ (q % 64)) % 3) % 3=0:=by
 obtain ⟨e,hl⟩:=Q29 s q hs
 unfold yv at h
 rw [e] at h
 omega
theorem V81 (s q:Nat)(hs:s<256):yv (256 * q+s) % 4=(s ^^^ (s / 64)) % 4:=by
 obtain ⟨e,hl⟩:=Q29 s q hs
 unfold yv
 rw [e]
 omega
theorem V6y (a b:Nat):(a ^^^ b) % 2=(a+b) % 2:=by
 have h:(a ^^^ b) % 2=(a % 2) ^^^ (b % 2):=by simpa using Nat.xor_mod_two_pow (a:=a) (b:=b) (n:=1)
 rcases Nat.mod_two_eq_zero_or_one a with h1 | h1<;>rcases Nat.mod_two_eq_zero_or_one b with h2 | h2<;>rw [h,Nat.add_mod,h1,h2]<;>rfl
def Gf (b a:Nat):Nat:=Nat.mod (Nat.xor (Nat.add (Nat.mul 64 a) b) a) 3
theorem Y92 (q:Nat):Gf (q % 64) (q / 64)=Gq q % 3:=by
 show ((64 * (q / 64)+q % 64) ^^^ (q / 64)) % 3=_
 rw [show 64 * (q / 64)+q % 64=q by omega,Gq]
def vis (b mp:Nat):Nat→Nat→Nat
 | 0,a=>Nat.pow 1024 (Gf b a)
 | k+1,a=>Nat.add (vis b mp k a) (vis b mp k (Nat.add a (Nat.mul mp (Nat.pow 2 k))))
def m3 (x:Nat):Nat:=max (x % 1024) (max (x / 1024 % 1024) (x / 1048576))
def top (b mp k:Nat):Nat→Nat→Nat
 | 0,_=>0
 | n+1,a=>max (m3 (vis b mp k a)) (top b mp k n (a+1))
def ind (p:Bool):Int:=if p=true then 1 else 0
def cntG (b mp r:Nat)(a n:Nat):Int:=Sg (fun i=>ind (decide (Gf b (a+i * mp)=r))) 0 n
theorem V4w (b mp r a n m:Nat):cntG b mp r a (n+m)=cntG b mp r a n+cntG b mp r (a+n * mp) m:=by
 unfold cntG
 rw [Z8n,Z4p]
 congr 1
 exact Z0u fun i _ _=>by rw [Nat.add_mul,Nat.add_assoc,Nat.add_comm (i * mp)]
theorem Y5d (b a:Nat):Gf b a<3:=Nat.mod_lt _ (by omega)
theorem W6q (b mp:Nat):∀ k a,∃ c:Nat→Nat,vis b mp k a=c 0+1024 * c 1+1048576 * c 2∧c 0+c 1+c 2=2 ^ k∧∀ r,r<3→cntG b mp r a (2 ^ k)=c r
 | 0,a=>by
  refine ⟨fun r=>if Gf b a=r then 1 else 0,?_,?_,fun r _=>?_⟩
  ·show Nat.pow 1024 (Gf b a)=_
   have:=Y5d b a
   rcases show Gf b a=0∨Gf b a=1∨Gf b a=2 by omega with h | h | h<;>rw [h]<;>rfl
  ·have:=Y5d b a
   rcases show Gf b a=0∨Gf b a=1∨Gf b a=2 by omega with h | h | h<;>rw [h]<;>rfl
  ·simp only [cntG,Nat.pow_zero,Sg,Nat.zero_mul,Nat.add_zero,ind,decide_eq_true_eq]
   split<;>simp
 | k+1,a=>by
  obtain ⟨c,h1,h2,h3⟩:=W6q b mp k a
  obtain ⟨d,k1,k2,k3⟩:=W6q b mp k (a+2 ^ k * mp)
  refine ⟨fun r=>c r+d r,?_,?_,fun r hr=>?_⟩
  ·show vis b mp k a+vis b mp k (a+mp * 2 ^ k)=_
   rw [Nat.mul_comm mp,h1,k1];dsimp only;omega
  ·rw [Nat.pow_succ];dsimp only;omega
  ·rw [show 2 ^ (k+1)=2 ^ k+2 ^ k by rw [Nat.pow_succ];omega,V4w,h3 r hr,k3 r hr];simp
theorem Y83 (b mp k a r:Nat)(hk:k≤9)(hr:r<3):cntG b mp r a (2 ^ k)≤(m3 (vis b mp k a):Int):=by
 obtain ⟨c,h1,h2,h3⟩:=W6q b mp k a
 have hp:2 ^ k≤2 ^ 9:=Nat.pow_le_pow_right (by omega) hk
 rw [h3 r hr,h1]
 have e0:(c 0+1024 * c 1+1048576 * c 2) % 1024=c 0:=by omega
 have e1:(c 0+1024 * c 1+1048576 * c 2) / 1024 % 1024=c 1:=by omega
 have e2:(c 0+1024 * c 1+1048576 * c 2) / 1048576=c 2:=by omega
 unfold m3
 rw [e0,e1,e2]
 rcases show r=0∨r=1∨r=2 by omega with h | h | h<;>subst h<;>omega
theorem V5g (b mp k:Nat):∀ n a i,a≤i→i<a+n→m3 (vis b mp k i)≤top b mp k n a
 | 0,a,i,h1,h2=>by omega
 | n+1,a,i,h1,h2=>by
  unfold top
  rcases Nat.eq_or_lt_of_le h1 with h | h
  ·subst h;omega
  ·have:=V5g b mp k n (a+1) i h (by omega);omega
def Wchk (mp k A:Nat)(W:List Nat):Bool:=(List.range 64).all fun b=>decide (top b mp k A 0≤W.getD b 0)
def sw (W:List Nat)(m par b0:Nat):Nat→Nat
 | 0=>0
 | n+1=>sw W m par b0 n+(if (b0+n * m) % 64 % 2=par then W.getD ((b0+n * m) % 64) 0 else 0)
def Schk (m per bd:Nat)(W:List Nat):Bool:=(List.range 64).all fun b0=>decide (sw W m 0 b0 per≤bd)&&decide (sw W m 1 b0 per≤bd)
theorem W_ok {mp k A:Nat}{W:List Nat}(h:Wchk mp k A W=true){b a:Nat}(hb:b<64)(ha:a<A):m3 (vis b mp k a)≤W.getD b 0:=by
 have:=List.all_eq_true.1 h b (List.mem_range.2 hb)
 have h2:=V5g b mp k A 0 a (by omega) (by omega)
 exact Nat.le_trans h2 (of_decide_eq_true this)
theorem S_ok {m per bd:Nat}{W:List Nat}(h:Schk m per bd W=true){b0 par:Nat}(hb:b0<64)(hp:par<2):sw W m par b0 per≤bd:=by
 have:=List.all_eq_true.1 h b0 (List.mem_range.2 hb)
 simp only [Bool.and_eq_true,decide_eq_true_eq] at this
 rcases show par=0∨par=1 by omega with e | e<;>subst e
 ·exact this.1
 ·exact this.2
theorem Y2a (W:List Nat)(m par q:Nat):∀ n,Sg (fun t=>((if (q+t * m) % 64 % 2=par then W.getD ((q+t * m) % 64) 0 else 0:Nat):Int)) 0 n=(sw W m par (q % 64) n:Int)
 | 0=>rfl
 | n+1=>by
  rw [Sg,Y2a W m par q n,sw,Nat.zero_add,show (q % 64+n * m) % 64=(q+n * m) % 64 by omega]
  simp
theorem V7e {m per mp k A bd:Nat}{W:List Nat}(hW:Wchk mp k A W=true)(hS:Schk m per bd W=true)(hp:per * m=64 * mp)(hk:k≤9)(hm:0<m){c a:Nat}(hq:c / 256+a * m+per * m≤64 * A) :
  Sg (fun j=>three (c+j * (256 * m))) a (2 ^ k * per)≤bd:=by
 have hs:c % 256<256:=Nat.mod_lt _ (by omega)
 rw [X22]
 refine Int.le_trans (X2x (g:=fun t=>((if (c / 256+t * m) % 64 % 2=c % 256 / 4 % 2 then W.getD ((c / 256+t * m) % 64) 0 else 0:Nat):Int)) fun t h1 h2=>?_) ?_
 ·generalize hQ:c / 256+t * m=Q
  have hx:∀ i,c+(t+i * per) * (256 * m)=256 * (Q+i * (64 * mp))+c % 256:=fun i=>by
   have e:(t+i * per) * (256 * m)=256 * (t * m+i * (per * m)):=by
    rw [Nat.add_mul,Nat.mul_add,Nat.mul_left_comm t 256 m,Nat.mul_assoc i per,Nat.mul_left_comm per 256 m,Nat.mul_left_comm i 256]
   rw [e,hp,←hQ];omega
  have hQA:Q / 64<A:=by
   have:=Nat.mul_lt_mul_of_pos_right h2 hm
   rw [Nat.add_mul] at this
   omega
  have hb:∀ i,(Q+i * (64 * mp)) % 64=Q % 64:=fun i=>by rw [Nat.mul_left_comm];omega
  have hd:∀ i,(Q+i * (64 * mp)) / 64=Q / 64+i * mp:=fun i=>by rw [Nat.mul_left_comm];omega
  have ht:∀ i,three (c+(t+i * per) * (256 * m))≤if Q % 64 % 2=c % 256 / 4 % 2 then ind (decide (Gf (Q % 64) (Q / 64+i * mp)=(3-((c % 256 / 4) ^^^ (Q % 64)) % 3) % 3)) else 0:=fun i=>by
   unfold three
   split
   ·rename_i h
    rw [hx] at h
    obtain ⟨_,h4,h5⟩:=V27 hs h
    rw [hb] at h4 h5
    rw [V6y] at h4
    rw [if_pos (by omega),←hd,←hb i,Y92,hb]
    refine Int.le_of_eq ?_
    symm
    unfold ind
    exact if_pos (decide_eq_true (by omega))
   ·split
    ·unfold ind;split<;>omega
    ·omega
  refine Int.le_trans (X2x fun i _ _=>ht i) ?_
  by_cases hpar:Q % 64 % 2=c % 256 / 4 % 2
  ·simp only [if_pos hpar]
   have h1:=Y83 (Q % 64) mp k (Q / 64) ((3-((c % 256 / 4) ^^^ (Q % 64)) % 3) % 3) hk (by omega)
   have h2:=W_ok hW (b:=Q % 64) (a:=Q / 64) (by omega) hQA
   unfold cntG at h1
   omega
  ·simp only [if_neg hpar]
   rw [Q78];simp
 ·have e:Sg (fun t=>((if (c / 256+t * m) % 64 % 2=c % 256 / 4 % 2 then W.getD ((c / 256+t * m) % 64) 0 else 0:Nat):Int)) a per=Sg (fun t=>((if (c / 256+a * m+t * m) % 64 % 2=c % 256 / 4 % 2 then W.getD ((c / 256+a * m+t * m) % 64) 0 else 0:Nat):Int)) 0 per:=by
   rw [show a=0+a by omega,Z4p]
   exact Z0u fun i _ _=>by rw [Nat.zero_add,Nat.add_mul,show c / 256+(i * m+a * m)=c / 256+a * m+i * m by omega]
  rw [e,Y2a]
  have:=S_ok hS (b0:=(c / 256+a * m) % 64) (par:=c % 256 / 4 % 2) (by omega) (by omega)
  omega
structure Pot (pk:Nat→Nat) (E:Nat) (V:Nat→Int):Prop where
 three:∀ p,p<E→pk p=3→V p+2≤V (p+1)
 other:∀ p,p<E→pk p≠3→1<pk p→V p≤V (p+1)+2
 skip:∀ p,p<E→pk p≤1→V p≤V (p+2)+2
 fin:∀ p,E≤p→V p≤0
def Vo (w:Nat→Int)(E p:Nat):Int:=Sg w p (E-p)
theorem X5j (w:Nat→Int){E p:Nat}(h:p<E):Vo w E p=w p+Vo w E (p+1):=by
 unfold Vo
 have e:E-p=1+(E-(p+1)):=by omega
 rw [e,Z8n]
 simp [Sg]
theorem V0o (w:Nat→Int){E p:Nat}(h:E≤p):Vo w E p=0:=by
 unfold Vo
 rw [show E-p=0 by omega];rfl
theorem W7i {pk:Nat→Nat}{E:Nat}{w:Nat→Int}(h3:∀ p,p<E→pk p=3→w p≤-2)(h2:∀ p,w p≤2)(h1:∀ p,p<E→pk p≤1→w p+w (p+1)≤2):Pot pk E (Vo w E) where
 three p hp h:=by have:=h3 p hp h;rw [X5j w hp];omega
 other p hp _ _:=by have:=h2 p;rw [X5j w hp];omega
 skip p hp h:=by
  rw [X5j w hp]
  by_cases he:p+1<E
  ·rw [X5j w he]
   have:=h1 p hp h
   show w p+(w (p+1)+Vo w E (p+2))≤_
   omega
  ·rw [V0o w (p:=p+1) (by omega),V0o w (p:=p+2) (by omega)]
   have:=h2 p;omega
 fin p hp:=by rw [V0o w hp];omega
def pkv (β:Nat→Nat)(L p:Nat):Nat:=if p<L then β p % 24 else yv (β (p % L) * 131+β ((p * 7+3) % L) * 1117+p * 29+p / L * 53)
def cls (β:Nat→Nat)(L k:Nat):Nat:=β k * 131+β ((k * 7+3) % L) * 1117+k * 29
theorem X9l (β:Nat→Nat){L k j:Nat}(hk:k<L)(hj:1≤j):pkv β L (k+j * L)=yv (cls β L k+j * (29 * L+53)):=by
 have h1:¬k+j * L<L:=by
  have:=Nat.mul_le_mul_right L hj
  omega
 have h2:(k+j * L) % L=k:=by rw [Nat.add_mul_mod_self_right,Nat.mod_eq_of_lt hk]
 have h3:(k+j * L) / L=j:=by rw [Nat.add_mul_div_right _ _ (by omega),Nat.div_eq_of_lt hk];omega
 have h4:((k+j * L) * 7+3) % L=(k * 7+3) % L:=by
  rw [show (k+j * L) * 7+3=k * 7+3+(j * 7) * L by rw [Nat.add_mul,Nat.mul_right_comm j L 7];omega,Nat.add_mul_mod_self_right]
 unfold pkv cls
 rw [if_neg h1,h2,h3,h4]
 congr 1
 have:j * (29 * L+53)=j * L * 29+j * 53:=by rw [Nat.mul_add,Nat.mul_left_comm,Nat.mul_comm 29]
 rw [this,Nat.add_mul]
 omega
theorem Y3l {D k:Nat}(h:k * D % 512=128)(c:Nat):∀ n a,Sg (fun j=>three (c+j * D)) a (n * (4 * k))≤n * k
 | 0,a=>by simp [Sg]
 | n+1,a=>by
  rw [Nat.add_mul,Nat.one_mul,Z8n]
  have h1:=Y3l h c n a
  have h2:=four h c (a+n * (4 * k))
  rw [show ((n+1:Nat):Int) * k=n * k+k by simp [Int.add_mul]]
  omega
theorem X48 (L p:Nat):p=p % L+p / L * L:=by
 have:=Nat.div_add_mod p L
 rw [Nat.mul_comm L] at this
 omega
theorem W1j (f:Nat→Int){L j0 J p0:Nat}(h0:p0≤j0 * L):Vo (fun p=>if p<j0 * L then -2 else f p) ((j0+J) * L) p0 = -2 * (j0 * L-p0:Nat)+Sg (fun k=>Sg (fun j=>f (k+j * L)) j0 J) 0 L:=by
 unfold Vo
 have e:(j0+J) * L-p0=(j0 * L-p0)+J * L:=by rw [Nat.add_mul];omega
 rw [e,Z8n,show p0+(j0 * L-p0)=j0 * L by omega]
 congr 1
 ·rw [Z0u (g:=fun _=>-2) fun i _ h=>by rw [if_pos (by omega)],Q78];omega
 ·rw [Z0u (g:=f) fun i h _=>by rw [if_neg (by omega)],V0p]
theorem Y2b {f:Nat→Int}{L:Nat}{x:Int}(h:∀ k,k<L→x≤f k):L * x≤Sg f 0 L:=by
 rw [←Q78 x 0 L]
 exact X2x fun i _ hi=>h i (by omega)
theorem potA (β:Nat→Nat){L p0:Nat}(hL:1≤L)(hL2:L≤2000)(hp:p0≤5000)(hD:(29 * L+53) % 256≠0):∃ E V,Pot (pkv β L) E V∧6≤V p0∧E≤20000000:=by
 obtain ⟨k,hk0,hk1,hk⟩:=V76 hD
 have hdiv:=Nat.div_add_mod p0 L
 have hml:=Nat.mod_lt p0 (show L > 0 by omega)
 generalize hj:p0 / L+1=j0 at *
 have hj1:1≤j0:=by rw [←hj];exact Nat.le_add_left _ _
 have hjL:j0 * L=L * (p0 / L)+L:=by rw [←hj,Nat.add_mul,Nat.one_mul,Nat.mul_comm L]
 generalize L * (p0 / L)=z at *
 have hb:∀ p,j0 * L≤p→∃ k j,k<L∧1≤j∧p=k+j * L:=fun p h=>⟨p % L,p / L,Nat.mod_lt _ (by omega),by
  have:=Nat.div_le_div_right (c:=L) h
  rw [Nat.mul_div_cancel _ (by omega)] at this
  omega,X48 _ _⟩
 obtain ⟨R,hR⟩:∃ R:Nat,(R=4∧3≤L)∨(R=8∧L≤2):=by
  by_cases h:3≤L
  ·exact ⟨4,.inl ⟨rfl,h⟩⟩
  ·exact ⟨8,.inr ⟨rfl,by omega⟩⟩
 refine ⟨(j0+R * (4 * k)) * L,Vo (fun p=>if p<j0 * L then -2 else (1-3 * (if pkv β L p=3 then 1 else 0))) ((j0+R * (4 * k)) * L),W7i ?_ ?_ ?_,?_,?_⟩
 ·intro p _ h3
  split
  ·omega
  ·first | omega | (rw [if_pos h3];omega)
 ·intro p
  split
  ·omega
  ·split<;>omega
 ·intro p _ h1
  split<;>split<;>(try split)<;>(try split)<;>omega
 ·rw [W1j _ (by omega)]
  have:(L:Int) * (R * k)≤Sg (fun q=>Sg (fun j=>1-3 * (if pkv β L (q+j * L)=3 then 1 else 0)) j0 (R * (4 * k))) 0 L:=Y2b fun q hq=>by
   have e:Sg (fun j=>1-3 * (if pkv β L (q+j * L)=3 then 1 else 0)) j0 (R * (4 * k))=Sg (fun j=>1+(-3) * three (cls β L q+j * (29 * L+53))) j0 (R * (4 * k)):=Z0u fun j h _=>by
    rw [X9l β hq (by omega)]
    unfold three
    omega
   rw [e,Z7z,Q78,X3u]
   have:=Y3l hk (cls β L q) R j0
   rcases hR with ⟨rfl,_⟩ | ⟨rfl,_⟩<;>omega
  have h4:(L:Int) * 1≤L * k:=Int.mul_le_mul_of_nonneg_left (by omega) (by omega)
  rcases hR with ⟨rfl,_⟩ | ⟨rfl,_⟩
  ·have e1:(L:Int) * (((4:Nat):Int) * k)=4 * (L * k):=by rw [Int.mul_left_comm];rfl
   rw [e1] at this
   omega
  ·have e1:(L:Int) * (((8:Nat):Int) * k)=8 * (L * k):=by rw [Int.mul_left_comm];rfl
   rw [e1] at this
   omega
 ·have h1:k * L≤511 * L:=Nat.mul_le_mul (by omega) (Nat.le_refl _)
  have h2:(j0+R * (4 * k)) * L=j0 * L+4 * (R * (k * L)):=by
   rw [Nat.add_mul,←Nat.mul_assoc,Nat.mul_comm R 4,Nat.mul_assoc 4,Nat.mul_assoc,Nat.mul_assoc]
  rcases hR with ⟨rfl,_⟩ | ⟨rfl,_⟩<;>omega
def Tk (β:Nat→Nat)(L k:Nat):Prop:=((cls β L k % 256) ^^^ (cls β L k % 256 / 64)) % 4=3
def Kk (β:Nat→Nat)(L k:Nat):Prop:=((cls β L k % 256) ^^^ (cls β L k % 256 / 64)) % 4≤1
instance (β:Nat→Nat)(L k:Nat):Decidable (Tk β L k):=by unfold Tk;infer_instance
instance (β:Nat→Nat)(L k:Nat):Decidable (Kk β L k):=by unfold Kk;infer_instance
def fB (β:Nat→Nat)(L p:Nat):Int:=
 if Tk β L (p % L) then (if pkv β L p=3 then -2 else 2) else if Kk β L (p % L)∧Tk β L ((p+1) % L) then 0 else 1
def iT (β:Nat→Nat)(L k:Nat):Int:=if Tk β L k then 1 else 0
def iS (β:Nat→Nat)(L k:Nat):Int:=if ¬Tk β L k∧Kk β L k∧Tk β L ((k+1) % L) then 1 else 0
theorem iT_0 (β:Nat→Nat)(L k:Nat):0≤iT β L k:=by unfold iT;split<;>omega
theorem Y8a (β:Nat→Nat)(L:Nat)(hL:1≤L):Sg (iS β L) 0 L≤Sg (iT β L) 0 L+1:=by
 obtain ⟨n,rfl⟩:∃ n,L=n+1:=⟨L-1,by omega⟩
 have h1:Sg (iT β (n+1)) 0 (n+1)=iT β (n+1) 0+Sg (fun k=>iT β (n+1) (k+1)) 0 n:=by
  rw [show n+1=1+n by omega,Z8n,show (0:Nat)+1=0+1 from rfl,Z4p]
  simp [Sg]
 have h2:Sg (iS β (n+1)) 0 n≤Sg (fun k=>iT β (n+1) (k+1)) 0 n:=X2x fun k _ hk=>by
  unfold iS iT
  rw [Nat.mod_eq_of_lt (by omega)]
  split
  ·rename_i h;rw [if_pos h.2.2];omega
  ·split<;>omega
 have h3:=iT_0 β (n+1) 0
 have h4:iS β (n+1) (0+n)≤1:=by unfold iS;split<;>omega
 rw [Sg,h1]
 omega
theorem V82 (β:Nat→Nat){L m p:Nat}(hD:29 * L+53=256 * m)(hL:1≤L)(hp:L≤p):pkv β L p % 4=((cls β L (p % L) % 256) ^^^ (cls β L (p % L) % 256 / 64)) % 4:=by
 have hk:=Nat.mod_lt p (show L > 0 by omega)
 have hj:1≤p / L:=(Nat.le_div_iff_mul_le (by omega)).2 (by omega)
 have e:=X9l β hk hj
 rw [←X48 L p] at e
 rw [e,hD]
 have:cls β L (p % L)+p / L * (256 * m)=256 * (cls β L (p % L) / 256+p / L * m)+cls β L (p % L) % 256:=by
  rw [Nat.mul_left_comm];omega
 rw [this,V81 _ _ (Nat.mod_lt _ (by omega))]
theorem potB (β:Nat→Nat)(hβ:∀ i,β i<256){L p0 m per mp k A bd:Nat}{W:List Nat}(hW:Wchk mp k A W=true)(hS:Schk m per bd W=true)(hpm:per * m=64 * mp)(hk9:k≤9)(hm:0<m)
  (hL:7≤L) (hL2:L≤2000) (hD:29 * L+53=256 * m) (hp:p0≤5000) (hδ:2 * bd+16≤2 ^ k * per) (hJ:32≤2 ^ k * per) (hJ2:2 ^ k * per≤8192)
  (hA:(318240+29 * L) / 256+(5000 / L+1) * m+per * m≤64 * A):∃ E V,Pot (pkv β L) E V∧6≤V p0∧E≤20000000:=by
 have hdiv:=Nat.div_add_mod p0 L
 have hml:=Nat.mod_lt p0 (show L > 0 by omega)
 have hj5:p0 / L+1≤5000 / L+1:=Nat.succ_le_succ (Nat.div_le_div_right hp)
 generalize hj:p0 / L+1=j0 at *
 have hj1:1≤j0:=by rw [←hj];exact Nat.le_add_left _ _
 have hjL:j0 * L=L * (p0 / L)+L:=by rw [←hj,Nat.add_mul,Nat.one_mul,Nat.mul_comm L]
 generalize L * (p0 / L)=z at *
 have hjm:=Nat.mul_le_mul_right m hj5
 generalize hJ0:2 ^ k * per=J at *
 have hLj:L≤j0 * L:=by omega
 have hkd:∀ p,j0 * L≤p→pkv β L p % 4=((cls β L (p % L) % 256) ^^^ (cls β L (p % L) % 256 / 64)) % 4:=fun p h=>V82 β hD (by omega) (by omega)
 refine ⟨(j0+J) * L,Vo (fun p=>if p<j0 * L then -2 else fB β L p) ((j0+J) * L),W7i ?_ ?_ ?_,?_,?_⟩
 ·intro p _ h3
  split
  ·omega
  ·rename_i hlt
   have hd:=hkd p (by omega)
   have ht:Tk β L (p % L):=by unfold Tk;rw [←hd,h3]
   unfold fB
   rw [if_pos ht,if_pos h3];omega
 ·intro p
  unfold fB
  split
  ·omega
  ·split
   ·split<;>omega
   ·split<;>omega
 ·intro p _ h1
  by_cases hlt:p<j0 * L
  ·simp only [if_pos hlt]
   unfold fB
   split
   ·omega
   ·split
    ·split<;>omega
    ·split<;>omega
  ·simp only [if_neg hlt,if_neg (show ¬p+1<j0 * L by omega)]
   have hd:=hkd p (by omega)
   have hnt:¬Tk β L (p % L):=by unfold Tk;rw [←hd];omega
   have hkk:Kk β L (p % L):=by unfold Kk;rw [←hd];omega
   unfold fB
   rw [if_neg hnt]
   by_cases ht:Tk β L ((p+1) % L)
   ·rw [if_pos ⟨hkk,ht⟩,if_pos ht]
    split<;>omega
   ·rw [if_neg (fun h=>ht h.2),if_neg ht]
    split<;>omega
 ·rw [W1j _ (by omega)]
  have hg:∀ q,q<L→32 * (1-iS β L q)≤Sg (fun j=>fB β L (q+j * L)) j0 J∧32 * iT β L q≤Sg (fun j=>fB β L (q+j * L)) j0 J:=fun q hq=>by
   have h2:∀ j,(q+j * L) % L=q:=fun j=>by rw [Nat.add_mul_mod_self_right,Nat.mod_eq_of_lt hq]
   have h3:∀ j,(q+j * L+1) % L=(q+1) % L:=fun j=>by rw [Nat.add_right_comm,Nat.add_mul_mod_self_right]
   by_cases ht:Tk β L q
   ·have e:Sg (fun j=>fB β L (q+j * L)) j0 J=Sg (fun j=>2+(-4) * three (cls β L q+j * (256 * m))) j0 J:=Z0u fun j hj' _=>by
     unfold fB
     rw [h2,if_pos ht,X9l β hq (by omega),hD]
     unfold three
     split<;>omega
    have hc:cls β L q≤318240+29 * L:=by
     have a1:=hβ q
     have a2:=hβ ((q * 7+3) % L)
     unfold cls
     omega
    have hc2:cls β L q / 256≤(318240+29 * L) / 256:=Nat.div_le_div_right hc
    have hs:=V7e hW hS hpm hk9 hm (c:=cls β L q) (a:=j0) (by omega)
    rw [hJ0] at hs
    rw [e,Z7z,Q78,X3u]
    unfold iS iT
    rw [if_neg (fun h=>h.1 ht),if_pos ht]
    omega
   ·by_cases hsk:Kk β L q∧Tk β L ((q+1) % L)
    ·have e:Sg (fun j=>fB β L (q+j * L)) j0 J=Sg (fun _=>0) j0 J:=Z0u fun j _ _=>by
      unfold fB
      rw [h2,h3,if_neg ht,if_pos hsk]
     rw [e,Q78]
     unfold iS iT
     rw [if_pos ⟨ht,hsk⟩,if_neg ht]
     omega
    ·have e:Sg (fun j=>fB β L (q+j * L)) j0 J=Sg (fun _=>1) j0 J:=Z0u fun j _ _=>by
      unfold fB
      rw [h2,h3,if_neg ht,if_neg hsk]
     rw [e,Q78]
     unfold iS iT
     rw [if_neg (fun h=>hsk h.2),if_neg ht]
     omega
  have s1:Sg (fun q=>32 * (1-iS β L q)) 0 L≤Sg (fun q=>Sg (fun j=>fB β L (q+j * L)) j0 J) 0 L:=X2x fun q _ hq=>(hg q (by omega)).1
  have s2:Sg (fun q=>32 * iT β L q) 0 L≤Sg (fun q=>Sg (fun j=>fB β L (q+j * L)) j0 J) 0 L:=X2x fun q _ hq=>(hg q (by omega)).2
  have s3:=Y8a β L (by omega)
  have s4:Sg (fun q=>32 * (1-iS β L q)) 0 L=32 * (L-Sg (iS β L) 0 L):=by
   rw [X3u]
   have:Sg (fun q=>1+(-1) * iS β L q) 0 L=L * 1+(-1) * Sg (iS β L) 0 L:=by rw [Z7z,Q78,X3u]
   rw [Z0u (g:=fun q=>1+(-1) * iS β L q) fun i _ _=>by omega,this]
   omega
  rw [X3u] at s2
  rw [s4] at s1
  omega
 ·have h1:J * L≤8192 * 2000:=Nat.mul_le_mul hJ2 hL2
  rw [Nat.add_mul]
  omega
theorem W70 {L:Nat}(h:(29 * L+53) % 256=0)(h2:L≤2000):L=7∨L=263∨L=519∨L=775∨L=1031∨L=1287∨L=1543∨L=1799:=by omega
end Go.Proofs.YtenmmbjgnlflnaaGreat.Zed
namespace Go.Proofs.YtenmmbjgnlflnaaGreat.Zed
set_option maxRecDepth 100000
def W7:List Nat:=[3,4,4,4,4,6,4,8,4,4,5,8,4,4,5,8,4,4,5,8,4,6,5,8,3,4,4,4,4,6,4,8,3,4,4,4,4,6,4,8,4,4,5,8,4,6,5,8,4,4,5,8,4,6,5,8,3,4,4,4,4,4,4,8]
theorem Wc7:Wchk 1 3 35 W7=true:=by kernel_rfl
theorem Sc7:Schk 1 64 188 W7=true:=by kernel_rfl
def W263:List Nat:=[64,57,57,52,62,57,56,55,61,55,58,54,58,55,58,54,57,59,52,53,57,56,53,61,55,58,54,58,56,60,54,59,62,68,60,63,60,57,60,61,57,64,63,57,60,62,56,61,68,60,63,61,58,65,61,58,64,62,59,63,60,57,60,60]
theorem Y8y:Wchk 15 7 49 W263=true:=by kernel_rfl
theorem Y91:Schk 30 32 1883 W263=true:=by kernel_rfl
def W519:List Nat:=[5,5,6,5,6,6,8,7,7,6,6,6,7,6,6,6,6,6,6,6,6,6,6,6,8,7,7,6,6,7,6,6,6,6,7,7,6,7,7,7,6,6,7,6,7,7,8,7,6,7,7,7,5,6,6,6,7,7,7,6,7,6,7,6]
theorem Y8x:Wchk 59 3 93 W519=true:=by kernel_rfl
theorem Y90:Schk 59 64 208 W519=true:=by kernel_rfl
def W775:List Nat:=[29,29,28,29,28,30,30,28,30,29,33,30,30,30,28,27,28,27,28,27,31,30,31,29,31,29,32,29,33,30,31,28,30,32,31,32,29,30,28,29,30,32,35,30,30,34,31,30,31,33,28,29,29,30,32,31,34,34,30,32,33,34,32,33]
theorem Y8w:Wchk 11 6 45 W775=true:=by kernel_rfl
theorem Y8z:Schk 88 8 248 W775=true:=by kernel_rfl
def Y57:List Nat:=[7,6,7,7,7,6,7,7,7,8,6,8,7,7,7,8,7,7,7,7,7,7,7,6,7,7,7,7,6,7,7,7,7,6,8,8,8,7,7,6,6,7,7,7,7,7,6,7,7,6,7,7,6,7,7,7,6,7,7,6,7,6,7,7]
theorem Y53:Wchk 117 3 151 Y57=true:=by kernel_rfl
theorem Y5b:Schk 117 64 220 Y57=true:=by kernel_rfl
def Y56:List Nat:=[69,63,67,62,60,61,58,62,68,71,61,64,59,63,58,64,62,61,70,66,63,62,59,66,64,60,61,61,57,61,61,60,60,59,57,61,67,62,66,60,58,68,64,59,62,64,62,61,59,58,60,61,63,62,63,62,57,60,56,62,62,59,63,64]
theorem Y52:Wchk 73 7 107 Y56=true:=by kernel_rfl
theorem Y5a:Schk 146 32 1989 Y56=true:=by kernel_rfl
def Y55:List Nat:=[7,6,7,7,7,7,7,7,7,7,6,7,6,7,7,7,7,7,7,7,7,7,6,7,6,7,7,7,7,7,7,7,7,7,7,7,7,7,7,7,7,8,7,6,6,7,6,7,7,7,7,6,7,7,7,7,7,8,7,7,7,6,7,7]
theorem Y51:Wchk 175 3 209 Y55=true:=by kernel_rfl
theorem Y59:Schk 175 64 222 Y55=true:=by kernel_rfl
def Y54:List Nat:=[66,61,63,58,56,61,59,59,62,59,59,60,60,57,59,58,59,57,60,56,55,62,57,60,61,59,59,60,56,58,57,55,61,59,58,60,59,55,60,57,63,63,69,57,64,56,58,59,62,58,64,58,59,60,61,56,63,56,60,59,64,61,60,55]
theorem Y50:Wchk 51 7 85 Y54=true:=by kernel_rfl
theorem Y58:Schk 204 16 970 Y54=true:=by kernel_rfl
theorem pot (β:Nat→Nat)(hβ:∀ i,β i<256){L p0:Nat}(hL:1≤L)(hL2:L≤2000)(hp:p0≤5000):∃ E V,Pot (pkv β L) E V∧6≤V p0∧E≤20000000:=by
 by_cases hD:(29 * L+53) % 256=0
 ·rcases W70 hD hL2 with rfl | rfl | rfl | rfl | rfl | rfl | rfl | rfl
  ·exact potB β hβ (m:=1) (per:=64) (mp:=1) (k:=3) (A:=35) (bd:=188) Wc7 Sc7 rfl (by omega) (by omega) (by omega) (by omega) rfl hp (by decide) (by decide) (by decide) (by decide)
  ·exact potB β hβ (m:=30) (per:=32) (mp:=15) (k:=7) (A:=49) (bd:=1883) Y8y Y91 rfl (by omega) (by omega) (by omega) (by omega) rfl hp (by decide) (by decide) (by decide) (by decide)
  ·exact potB β hβ (m:=59) (per:=64) (mp:=59) (k:=3) (A:=93) (bd:=208) Y8x Y90 rfl (by omega) (by omega) (by omega) (by omega) rfl hp (by decide) (by decide) (by decide) (by decide)
  ·exact potB β hβ (m:=88) (per:=8) (mp:=11) (k:=6) (A:=45) (bd:=248) Y8w Y8z rfl (by omega) (by omega) (by omega) (by omega) rfl hp (by decide) (by decide) (by decide) (by decide)
  ·exact potB β hβ (m:=117) (per:=64) (mp:=117) (k:=3) (A:=151) (bd:=220) Y53 Y5b rfl (by omega) (by omega) (by omega) (by omega) rfl hp (by decide) (by decide) (by decide) (by decide)
  ·exact potB β hβ (m:=146) (per:=32) (mp:=73) (k:=7) (A:=107) (bd:=1989) Y52 Y5a rfl (by omega) (by omega) (by omega) (by omega) rfl hp (by decide) (by decide) (by decide) (by decide)
  ·exact potB β hβ (m:=175) (per:=64) (mp:=175) (k:=3) (A:=209) (bd:=222) Y51 Y59 rfl (by omega) (by omega) (by omega) (by omega) rfl hp (by decide) (by decide) (by decide) (by decide)
  ·exact potB β hβ (m:=204) (per:=16) (mp:=51) (k:=7) (A:=85) (bd:=970) Y50 Y58 rfl (by omega) (by omega) (by omega) (by omega) rfl hp (by decide) (by decide) (by decide) (by decide)
 ·exact potA β hL hL2 hp hD
theorem pot0 (p0:Nat):∃ E V,Pot (fun _=>0) E V∧6≤V p0∧E≤p0+6:=by
 refine ⟨p0+6,Vo (fun _=>1) (p0+6),W7i (fun _ _ h=>by cases h) (fun _=>by omega) (fun _ _ _=>by omega),?_,Nat.le_refl _⟩
 unfold Vo
 rw [Q78]
 omega
end Go.Proofs.YtenmmbjgnlflnaaGreat.Zed
