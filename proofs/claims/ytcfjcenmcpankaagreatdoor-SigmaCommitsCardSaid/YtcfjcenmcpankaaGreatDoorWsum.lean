import Derived.Test.YtcfjcenmcpankaaGreatDoorNum
set_option linter.unusedVariables false
set_option linter.unusedSimpArgs false
set_option maxRecDepth 100000
set_option maxHeartbeats 16000000
namespace Go.Proofs.YtcfjcenmcpankaaGreatDoor
/- Sums of columns: the value of a list of column sums,the least weight first. Plain Lean. -/
def wsum:List Nat→Nat
 | []=>0
 | d :: t=>d+256*wsum t
theorem wsum_zeros (n:Nat):wsum (List.replicate n 0)=0:=by
 induction n with
 | zero=>rfl
 | succ n ih=>rw [List.replicate_succ,wsum,ih]
theorem wsum_set (l:List Nat) (j x:Nat) (h:j<l.length):wsum (l.set j (l[j]+x))=wsum l+x*256^j:=by
 induction l generalizing j with
 | nil=>simp at h
 | cons d t ih =>
  cases j with
  | zero=>simp [wsum];omega
  | succ j =>
   simp only [List.length_cons,Nat.add_lt_add_iff_right] at h;simp only [List.set_cons_succ,wsum,List.getElem_cons_succ];rw [ih j h,Nat.pow_succ,Nat.mul_add,←Nat.mul_assoc x,Nat.mul_comm (x*256^j) 256];omega
theorem wsum_append (l:List Nat) (x:Nat):wsum (l++[x])=wsum l+x*256^l.length:=by
 induction l with
 | nil=>simp [wsum]
 | cons d t ih =>
  rw [List.cons_append,wsum,wsum,ih,List.length_cons,Nat.pow_succ,Nat.mul_add,←Nat.mul_assoc x,Nat.mul_comm (x*256^t.length) 256];omega
theorem wsum_take (l:List Nat) (k:Nat) (h:k<l.length):wsum (l.take (k+1))=wsum (l.take k)+l[k]*256^k:=by
 rw [List.take_succ_eq_append_getElem h,wsum_append,List.length_take_of_le (by omega)]
theorem wsum_fit (l:List Nat) (n v:Nat) (hl:n≤l.length) (hv:wsum l=v) (hf:v<256^n):wsum (l.take n)=v:=by
 induction h:l.length-n generalizing l with
 | zero=>rw [List.take_of_length_le (by omega)];exact hv
 | succ m ih =>
  have hlen:l.length≠0:=by omega
  have e:=wsum_take l (l.length-1) (by omega);rw [show l.length-1+1=l.length by omega,List.take_of_length_le (Nat.le_refl _),hv] at e
  have hz:l[l.length-1]=0:=by
   rcases Nat.eq_zero_or_pos l[l.length-1] with h0 | h0
   ·exact h0
   ·have h1:1*256^(l.length-1)≤l[l.length-1]*256^(l.length-1):=Nat.mul_le_mul_right _ h0;have h2:256^n≤256^(l.length-1):=Nat.pow_le_pow_right (by decide) (by omega);omega
  rw [hz,Nat.zero_mul,Nat.add_zero] at e;have:=ih (l.take (l.length-1)) (by simp;omega) e.symm (by simp;omega);rwa [List.take_take,Nat.min_eq_left (by omega)] at this
theorem col_step (S:List Nat) (k c x:Nat) (t:List UInt8) (hk:k<S.length) (hl:t.length=k) (hv:val t+c*256^k=wsum (S.take k)) (hx:x=S[k]+c) :
  val (UInt8.ofNat (x%256) :: t)+x / 256*256^(k+1)=wsum (S.take (k+1)):=by
 rw [wsum_take S k hk,val_cons,UInt8.toNat_ofNat',hl,Nat.mod_eq_of_lt (by have:=Nat.mod_lt x (show 0<256 by decide);omega),Nat.pow_succ];have h:=Nat.div_add_mod x 256
 have h2:x%256*256^k+x / 256*(256^k*256)=x*256^k:=by
  have:(256*(x / 256)+x%256)*256^k=x*256^k:=by rw [h]
  rw [Nat.add_mul] at this;rw [Nat.mul_comm (256^k) 256,←Nat.mul_assoc,Nat.mul_comm (x / 256) 256];omega
 have h3:x*256^k=S[k]*256^k+c*256^k:=by rw [hx,Nat.add_mul]
 omega
theorem col_end (n c v:Nat) (S:List Nat) (t:List UInt8) (hl:t.length=n) (hn:n≤S.length) (hv:val t+c*256^n=wsum (S.take n)) (hs:wsum S=v) (hf:v<256^n):val t=v:=by
 rw [wsum_fit S n v hn hs hf] at hv;rcases Nat.eq_zero_or_pos c with h0 | h0
 ·subst h0;omega
 ·have h1:1*256^n≤c*256^n:=Nat.mul_le_mul_right _ h0;omega
def ColB (M:Nat) (S:List Nat) (i m:Nat):Prop:=∀j x,S[j]?=some x→x≤M*i+if j<m then M else 0
theorem ColB.zeros (M n:Nat):ColB M (List.replicate n 0) 0 0:=by
 intro j x h;rw [List.getElem?_replicate] at h;split at h
 ·simp only [Option.some.injEq] at h;omega
 ·simp at h
theorem ColB.start {M:Nat} {S:List Nat} {i:Nat} (h:ColB M S i 0):ColB M S i i:=by
 intro j x hj;have:=h j x hj;simp only [Nat.not_lt_zero,if_false] at this;split <;> omega
theorem ColB.next {M:Nat} {S:List Nat} {i m:Nat} (h:ColB M S i m):ColB M S (i+1) 0:=by
 intro j x hj;have:=h j x hj;rw [if_neg (Nat.not_lt_zero _),Nat.mul_add,Nat.mul_one];split at this <;> omega
theorem ColB.step {M:Nat} {S:List Nat} {i m p:Nat} (h:ColB M S i m) (hm:m<S.length) (hp:p≤M):ColB M (S.set m (S[m]+p)) i (m+1):=by
 intro j x hj;rw [List.getElem?_set] at hj;split at hj
 ·rename_i hjm;subst hjm;simp only [hm,if_true,Option.some.injEq] at hj;have:=h m S[m] (List.getElem?_eq_getElem hm);rw [if_neg (Nat.lt_irrefl _)] at this;rw [if_pos (Nat.lt_succ_self _)];omega
 ·have:=h j x hj;split at this
  ·rw [if_pos (by omega)];omega
  ·split <;> omega
theorem ColB.at {M:Nat} {S:List Nat} {i m j:Nat} (h:ColB M S i m) (hj:j<S.length):S[j]≤M*i+M:=by
 have:=h j S[j] (List.getElem?_eq_getElem hj);split at this <;> omega
theorem prod_step (S:List Nat) (A b i k da:Nat) (h:i+k<S.length) (hs:wsum S=A*b+da*256^i*(b%256^k)) :
  wsum (S.set (i+k) (S[i+k]+da*(b / 256^k%256)))=A*b+da*256^i*(b%256^(k+1)):=by
 rw [wsum_set S (i+k) _ h,hs,mod_succ,Nat.mul_add,Nat.pow_add]
 have:da*(b / 256^k%256)*(256^i*256^k)=da*256^i*(b / 256^k%256*256^k):=by
  rw [Nat.mul_assoc,Nat.mul_assoc,Nat.mul_left_comm (b / 256^k%256)]
 omega
theorem prod_row (a b i m:Nat) (hb:b<256^m):a%256^i*b+a / 256^i%256*256^i*(b%256^m)=a%256^(i+1)*b:=by
 rw [mod_succ,Nat.mod_eq_of_lt hb,Nat.add_mul];omega
end Go.Proofs.YtcfjcenmcpankaaGreatDoor
