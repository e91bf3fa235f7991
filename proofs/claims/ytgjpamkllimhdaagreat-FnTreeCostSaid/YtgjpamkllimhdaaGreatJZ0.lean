import Derived.KernelRfl
set_option linter.unusedSimpArgs false
set_option linter.unusedVariables false
namespace Go.Proofs.YtgjpamkllimhdaaGreat.Zed
def Gq (q:Nat):Nat:=q ^^^ (q / 64)
theorem Q1g (s q:Nat)(hs:s<256):((256 * q+s) ^^^ ((256 * q+s) / 64))=256 * Gq q+4 * ((s / 4) ^^^ (q % 64))+((s ^^^ (s / 64)) % 4)∧(s / 4) ^^^ (q % 64)<64:=by
 have hx64:(256 * q+s) / 64=4 * q+s / 64:=by omega
 rw [hx64]
 generalize hy:(256 * q+s) ^^^ (4 * q+s / 64)=y
 have h4:y % 2 ^ 2=(s ^^^ (s / 64)) % 4:=by
  rw [←hy,Nat.xor_mod_two_pow,show (4:Nat)=2 ^ 2 from rfl,Nat.xor_mod_two_pow,show (256 * q+s) % 2 ^ 2=s % 2 ^ 2 by omega,show (2 ^ 2 * q+s / 64) % 2 ^ 2=s / 64 % 2 ^ 2 by omega]
 have hd:y / 2 ^ 2=(64 * q+s / 4) ^^^ q:=by
  rw [←hy,Nat.xor_div_two_pow,show (256 * q+s) / 2 ^ 2=64 * q+s / 4 by omega,show (4 * q+s / 64) / 2 ^ 2=q by omega]
 have hm:(y / 2 ^ 2) % 2 ^ 6=(s / 4) ^^^ (q % 64):=by
  rw [hd,Nat.xor_mod_two_pow,show (64 * q+s / 4) % 2 ^ 6=s / 4 by omega,show (2:Nat) ^ 6=64 from rfl]
 have hh:(y / 2 ^ 2) / 2 ^ 6=Gq q:=by
  rw [hd,Nat.xor_div_two_pow,show (64 * q+s / 4) / 2 ^ 6=q by omega,Gq]
 have hl:(s / 4) ^^^ (q % 64)<64:=by rw [←hm];omega
 refine ⟨?_,hl⟩
 rw [←hh,←hm,←h4]
 omega
def m3 (x:Nat):Nat:=max (x % 1024) (max (x / 1024 % 1024) (x / 1048576))
def ind (p:Bool):Int:=if p=true then 1 else 0
def sw (W:List Nat)(m par b0:Nat):Nat→Nat
 | 0=>0
 | n+1=>sw W m par b0 n+(if (b0+n * m) % 64 % 2=par then W.getD ((b0+n * m) % 64) 0 else 0)
def cls (β:Nat→Nat)(L k:Nat):Nat:=β k * 131+β ((k * 7+3) % L) * 1117+k * 29
theorem X3b (L p:Nat):p=p % L+p / L * L:=by
 have:=Nat.div_add_mod p L
 rw [Nat.mul_comm L] at this
 omega
def Tk (β:Nat→Nat)(L k:Nat):Prop:=((cls β L k % 256) ^^^ (cls β L k % 256 / 64)) % 4=3
def Kk (β:Nat→Nat)(L k:Nat):Prop:=((cls β L k % 256) ^^^ (cls β L k % 256 / 64)) % 4≤1
instance (β:Nat→Nat)(L k:Nat):Decidable (Tk β L k):=by unfold Tk;infer_instance
instance (β:Nat→Nat)(L k:Nat):Decidable (Kk β L k):=by unfold Kk;infer_instance
end Go.Proofs.YtgjpamkllimhdaaGreat.Zed
