import Derived.Test.YtcfjcenmcpankaaGreatDoorNum
import Derived.Lib.BitFns
set_option linter.unusedVariables false
set_option linter.unusedSimpArgs false
set_option maxRecDepth 100000
set_option maxHeartbeats 16000000
namespace Go.Proofs.YtcfjcenmcpankaaGreatDoor
/- Binary digits of numbers: how many there are,and which are 1. Plain Lean. -/
def nb (n:Nat):Nat:=if n=0 then 0 else n.log2+1
def bitB (n i:Nat):Bool:=n / 2^i%2==1
theorem lt_nb (n:Nat):n<2^nb n:=by
 unfold nb;by_cases h:n=0
 ·simp [h]
 ·rw [if_neg h];exact Nat.lt_log2_self
theorem nb_low (n:Nat) (h:n≠0):2^(nb n-1)≤n:=by
 unfold nb;rw [if_neg h,Nat.add_sub_cancel];exact Nat.log2_self_le h
theorem nb_zero:nb 0=0:=rfl
theorem nb_pos (n:Nat) (h:0<n):0<nb n:=by unfold nb;rw [if_neg (by omega)];omega
theorem nb_of (n m:Nat) (h0:0<m) (h1:2^(m-1)≤n) (h2:n<2^m):nb n=m:=by
 have hp:0<2^(m-1):=Nat.pow_pos (by decide);have hn:n≠0:=by omega
 have a:=lt_nb n;have b:=nb_low n hn;have hnb:=nb_pos n (by omega);have c1:2^(nb n-1)<2^m:=Nat.lt_of_le_of_lt b h2;have c2:2^(m-1)<2^nb n:=Nat.lt_of_le_of_lt h1 a;rw [Nat.pow_lt_pow_iff_right (by decide)] at c1 c2;omega
theorem nb_half (n:Nat) (h:0<n):nb n=1+nb (n / 2):=by
 by_cases h1:n=1
 ·subst h1;decide
 ·have hp:=nb_pos (n / 2) (by omega);have a:=lt_nb (n / 2);have b:=nb_low (n / 2) (by omega);refine nb_of n _ (by omega) ?_ ?_
  ·rw [show 1+nb (n / 2)-1=(nb (n / 2)-1)+1 by omega,Nat.pow_succ];omega
  ·rw [Nat.add_comm,Nat.pow_succ];omega
theorem nb_shift (n k:Nat) (h:2^k≤n):nb n=k+nb (n / 2^k):=by
 have hk:0<2^k:=Nat.pow_pos (by decide);have hq:0<n / 2^k:=Nat.div_pos h hk;have hp:=nb_pos (n / 2^k) hq;have a:=lt_nb (n / 2^k);have b:=nb_low (n / 2^k) (by omega);refine nb_of n _ (by omega) ?_ ?_
 ·rw [show k+nb (n / 2^k)-1=(nb (n / 2^k)-1)+k by omega,Nat.pow_add];exact (Nat.le_div_iff_mul_le hk).1 b
 ·rw [Nat.add_comm,Nat.pow_add];exact (Nat.div_lt_iff_lt_mul hk).1 a
theorem nb_byte:∀x:Fin 256,Lib.bitLen x.val=nb x.val:=by decide +kernel
theorem pow256 (k:Nat):256^k=2^(8*k):=by rw [Nat.pow_mul]
theorem nb_first (n:Nat) (h:0<n):nb n=8*((enc n).length-1)+nb (n / 256^((enc n).length-1)):=by
 have hl:¬ (enc n).length≤(enc n).length-1:=by
  have:0<(enc n).length:=by
   rcases Nat.eq_zero_or_pos (enc n).length with h0 | h0
   ·have:=(enc_length_le n 0).1 (by omega);simp at this;omega
   ·exact h0
  omega
 rw [enc_length_le] at hl;rw [pow256] at hl ⊢;exact nb_shift n _ (by omega)
theorem first_byte (n:Nat) (h:0<n):0<n / 256^((enc n).length-1)∧n / 256^((enc n).length-1)<256:=by
 have hp:0<(enc n).length:=by
  rcases Nat.eq_zero_or_pos (enc n).length with h0 | h0
  ·have:=(enc_length_le n 0).1 (by omega);simp at this;omega
  ·exact h0
 have hl:¬ (enc n).length≤(enc n).length-1:=by omega
 rw [enc_length_le] at hl;have hu:=(enc_length_le n (enc n).length).1 (Nat.le_refl _);have hk:0<256^((enc n).length-1):=Nat.pow_pos (by decide);refine ⟨Nat.div_pos (by omega) hk,?_⟩;rw [Nat.div_lt_iff_lt_mul hk,Nat.mul_comm,←Nat.pow_succ];rwa [show ((enc n).length-1).succ=(enc n).length by omega]
theorem bit_byte (n i:Nat):n / 256^(i / 8)%256 / 2^(i%8)%2=n / 2^i%2:=by
 have hr:i%8<8:=Nat.mod_lt _ (by decide)
 have e:n / 2^i=n / 256^(i / 8) / 2^(i%8):=by
  rw [pow256,Nat.div_div_eq_div_mul,←Nat.pow_add,Nat.div_add_mod]
 rw [e];generalize n / 256^(i / 8)=m;generalize i%8=r at hr;have:r=0∨r=1∨r=2∨r=3∨r=4∨r=5∨r=6∨r=7:=by omega
 rcases this with rfl | rfl | rfl | rfl | rfl | rfl | rfl | rfl <;> simp only [Nat.pow_zero,Nat.reducePow] <;> omega
theorem bit_split (n i:Nat):n / 2^i=2*(n / 2^(i+1))+n / 2^i%2:=by
 rw [Nat.pow_succ,←Nat.div_div_eq_div_mul];omega
theorem bit_one {n i:Nat} (h:bitB n i=true):n / 2^i=2*(n / 2^(i+1))+1:=by
 have:=bit_split n i;unfold bitB at h;rw [beq_iff_eq] at h;omega
theorem bit_nil {n i:Nat} (h:bitB n i=false):n / 2^i=2*(n / 2^(i+1)):=by
 have:=bit_split n i;unfold bitB at h;rw [beq_eq_false_iff_ne] at h;omega
end Go.Proofs.YtcfjcenmcpankaaGreatDoor
