import Derived.Lib.BitFns
set_option linter.unusedVariables false
set_option linter.unusedSimpArgs false
set_option maxRecDepth 100000
set_option maxHeartbeats 16000000
namespace Go.Proofs.YtihjpddbjhcbmaaGreatDoor
section
/- Numbers as byte strings,in plain Lean: the big-endian value of a list of bytes,the canonical list of a number,and how digits,lengths and the order of lists go with it. No program is in sight. -/
def val (l:List UInt8):Nat:=l.foldl (fun n b=>n*256+b.toNat) 0
def encF:Nat→Nat→List UInt8
 | 0,_=>[]
 | f+1,n=>if n=0 then [] else encF f (n / 256)++[UInt8.ofNat n]
def enc (n:Nat):List UInt8:=encF n n
def E (n:Nat):ByteArray:=⟨(enc n).toArray⟩
def canon (l:List UInt8):Prop:=l.head?≠some 0
theorem val_nil:val []=0:=rfl
theorem foldl_val (l:List UInt8) (n:Nat):l.foldl (fun n b=>n*256+b.toNat) n=n*256^l.length+val l:=by
 induction l generalizing n with
 | nil=>simp[val]
 | cons b t ih =>
  simp only[List.foldl_cons,List.length_cons,val];rw[ih,ih (0*256+b.toNat)];simp only[Nat.pow_succ,Nat.zero_mul,Nat.zero_add,Nat.add_mul];rw[Nat.mul_assoc,Nat.mul_comm 256,Nat.add_assoc]
theorem val_cons (b:UInt8) (t:List UInt8):val (b :: t)=b.toNat*256^t.length+val t:=by
 show List.foldl _ (0*256+b.toNat) t=_;rw[foldl_val];simp
theorem val_append (a b:List UInt8):val (a++b)=val a*256^b.length+val b:=by
 show List.foldl _ 0 (a++b)=_;rw[List.foldl_append,foldl_val];rfl
theorem val_snoc (a:List UInt8) (b:UInt8):val (a++[b])=val a*256+b.toNat:=by
 rw[val_append];simp[val]
theorem val_lt (l:List UInt8):val l<256^l.length:=by
 induction l with
 | nil=>simp[val]
 | cons b t ih =>
  rw[val_cons,List.length_cons,Nat.pow_succ];have hb:b.toNat≤255:=by have:=b.toNat_lt;omega
  have:b.toNat*256^t.length≤255*256^t.length:=Nat.mul_le_mul_right _ hb;omega
theorem val_zeros (k:Nat):val (List.replicate k 0)=0:=by
 induction k with
 | zero=>rfl
 | succ k ih=>rw[List.replicate_succ,val_cons,ih];simp
theorem encF_stable (f g n:Nat) (hf:n≤f) (hg:n≤g):encF f n=encF g n:=by
 induction f generalizing g n with
 | zero =>
      obtain rfl:n=0:=by omega
      cases g <;> simp[encF]
 | succ f ih =>
  cases g with
  | zero =>
       obtain rfl:n=0:=by omega
       simp[encF]
  | succ g =>
   simp only[encF];by_cases h:n=0
   ·simp[h]
   ·rw[if_neg h,if_neg h,ih g (n / 256) (by omega) (by omega)]
theorem enc_zero:enc 0=[]:=rfl
theorem enc_pos (n:Nat) (h:0<n):enc n=enc (n / 256)++[UInt8.ofNat n]:=by
 unfold enc;obtain⟨m,rfl⟩:∃m,n=m+1:=⟨n-1,by omega⟩;rw[encF,if_neg (by omega),encF_stable m ((m+1) / 256) _ (by omega) (by omega)]
theorem val_enc (n:Nat):val (enc n)=n:=by
 induction n using Nat.strongRecOn with
 | ind n ih =>
  by_cases h:n=0
  ·subst h;rfl
  ·rw[enc_pos n (by omega),val_snoc,ih _ (by omega),UInt8.toNat_ofNat'];omega
theorem E_data (n:Nat):(E n).data.toList=enc n:=by simp[E]
theorem val_E (n:Nat):val (E n).data.toList=n:=by rw[E_data,val_enc]
theorem enc_inj {a b:Nat} (h:enc a=enc b):a=b:=by rw[←val_enc a,h,val_enc]
theorem E_size (n:Nat):(E n).size=(enc n).length:=by simp[E,ByteArray.size]
theorem canon_enc (n:Nat):canon (enc n):=by
 induction n using Nat.strongRecOn with
 | ind n ih =>
  by_cases h:n=0
  ·subst h;simp[canon,enc_zero]
  ·rw[enc_pos n (by omega)];by_cases h2:n / 256=0
   ·rw[h2,enc_zero];simp only[canon,List.nil_append,List.head?_cons,ne_eq,Option.some.injEq];intro e;have:=congrArg UInt8.toNat e;rw[UInt8.toNat_ofNat']at this;simp at this;omega
   ·have h3:=ih (n / 256) (by omega)
    have h4:enc (n / 256)≠[]:=by
     intro e;have:=val_enc (n / 256);rw[e]at this;simp[val]at this;omega
    cases e:enc (n / 256) with
    | nil=>exact absurd e h4
    | cons x t=>rw[e]at h3;simpa [canon] using h3
theorem enc_of_val (l:List UInt8) (h:canon l):enc (val l)=l:=by
 induction hn:l.length generalizing l with
 | zero=>obtain rfl:=List.length_eq_zero_iff.1 hn;rfl
 | succ k ih =>
  obtain⟨t,b,rfl⟩:∃t b,l=t++[b]:=⟨l.dropLast,l.getLast (by intro e;subst e;simp at hn),(List.dropLast_concat_getLast _).symm⟩
  have hc:canon t:=by
   cases t with
   | nil=>simp[canon]
   | cons x t=>simpa [canon] using h
  have hd:0<val (t++[b]):=by
   rw[val_snoc];cases t with
   | nil =>
    simp only[canon,List.nil_append,List.head?_cons,ne_eq,Option.some.injEq]at h;have:b.toNat≠0:=fun e=>h (UInt8.toNat_inj.1 (by simpa using e))
    omega
   | cons x t =>
    simp only[canon,List.head?_cons,ne_eq,Option.some.injEq]at hc;have hx:x.toNat≠0:=fun e=>hc (UInt8.toNat_inj.1 (by simpa using e))
    rw[val_cons];have:0<x.toNat*256^t.length:=Nat.mul_pos (by omega) (Nat.pow_pos (by decide));omega
  rw[enc_pos _ hd,val_snoc];have hb:=b.toNat_lt;have h1:(val t*256+b.toNat) / 256=val t:=by omega
  rw[h1,ih t hc (by simp at hn;omega)];congr 2
  apply UInt8.toNat_inj.1
  rw[UInt8.toNat_ofNat'];omega
theorem E_of_val (s:ByteArray) (h:canon s.data.toList):E (val s.data.toList)=s:=by
 apply ByteArray.ext
 apply Array.toList_inj.1
 rw[E_data,enc_of_val _ h]
theorem enc_length_le (n k:Nat):(enc n).length≤k↔n<256^k:=by
 induction k generalizing n with
 | zero =>
  constructor
  ·intro h;have:enc n=[]:=List.length_eq_zero_iff.1 (by omega);have e:=val_enc n;rw[this]at e;simp[val]at e;omega
  ·intro h;obtain rfl:n=0:=by simp at h;exact h
   simp[enc_zero]
 | succ k ih =>
  by_cases h0:n=0
  ·subst h0;simp[enc_zero];exact Nat.pow_pos (by decide)
  ·rw[enc_pos n (by omega)];simp only[List.length_append,List.length_cons,List.length_nil,Nat.zero_add,Nat.add_le_add_iff_right];rw[ih,Nat.pow_succ,Nat.div_lt_iff_lt_mul (by decide)]
theorem E_size_le (n k:Nat):(E n).size≤k↔n<256^k:=by rw[E_size];exact enc_length_le n k
theorem E_size_pos (n:Nat):0<(E n).size↔0<n:=by
 have h:=E_size_le n 0;rw[Nat.pow_zero]at h;constructor
 ·intro h1;rcases Nat.lt_or_ge n 1 with h2 | h2
  ·have:=h.2 h2;omega
  ·omega
 ·intro h1;rcases Nat.lt_or_ge 0 (E n).size with h2 | h2
  ·exact h2
  ·have:=h.1 h2;omega
theorem E_zero:E 0=ByteArray.empty:=rfl
theorem digit_val_aux (k:Nat):∀(l:List UInt8) (i j:Nat) (hk:l.length=k) (h:i<l.length) (hj:j=l.length-1-i),(l[j]'(by omega)).toNat=val l / 256^i%256:=by
 induction k with
 | zero=>intro l i j hk h;omega
 | succ k ih =>
  intro l i j hk h hj;obtain⟨t,b,rfl⟩:∃t b,l=t++[b]:=⟨l.dropLast,l.getLast (by intro e;subst e;simp at h),(List.dropLast_concat_getLast _).symm⟩;simp only[List.length_append,List.length_cons,List.length_nil,Nat.zero_add]at hk h hj;have hb:=b.toNat_lt;rw[val_snoc];cases i with
  | zero =>
   simp only[Nat.pow_zero,Nat.div_one];rw[List.getElem_append_right (by omega)];simp
  | succ i =>
   rw[List.getElem_append_left (by omega)];rw[Nat.pow_succ,Nat.mul_comm (256^i),←Nat.div_div_eq_div_mul];have e:(val t*256+b.toNat) / 256=val t:=by omega
   rw[e,←ih t i j (by omega) (by omega) (by omega)]
theorem digit_out (l:List UInt8) (i:Nat) (h:l.length≤i):val l / 256^i%256=0:=by
 have:=val_lt l;have h2:val l<256^i:=Nat.lt_of_lt_of_le this (Nat.pow_le_pow_right (by decide) h);rw[Nat.div_eq_of_lt h2]
theorem mod_succ (a i:Nat):a%256^(i+1)=a / 256^i%256*256^i+a%256^i:=by
 rw[Nat.pow_succ,Nat.mod_mul,Nat.mul_comm (256^i),Nat.add_comm]
theorem val_lt_of_lex (p a b:List UInt8) (x y:UInt8) (h:x<y) (hl:a.length=b.length):val (p++x :: a)<val (p++y :: b):=by
 rw[val_append,val_append,val_cons,val_cons,List.length_cons,List.length_cons,hl];have h1:x.toNat+1≤y.toNat:=by have:=UInt8.lt_iff_toNat_lt.1 h;omega
 have ha:=val_lt a;rw[hl]at ha;have h2:(x.toNat+1)*256^b.length≤y.toNat*256^b.length:=Nat.mul_le_mul_right _ h1;rw[Nat.add_mul]at h2;omega
theorem val_lt_of_length {a b:List UInt8} (hb:canon b) (h:a.length<b.length):val a<val b:=by
 have h1:=val_lt a;have h2:¬ (enc (val b)).length≤a.length:=by rw[enc_of_val b hb];omega
 rw[enc_length_le]at h2;omega
end
section
/- Sums of columns: the value of a list of column sums,the least weight first. Plain Lean. -/
def wsum:List Nat→Nat
 | []=>0
 | d :: t=>d+256*wsum t
theorem wsum_zeros (n:Nat):wsum (List.replicate n 0)=0:=by
 induction n with
 | zero=>rfl
 | succ n ih=>rw[List.replicate_succ,wsum,ih]
theorem wsum_set (l:List Nat) (j x:Nat) (h:j<l.length):wsum (l.set j (l[j]+x))=wsum l+x*256^j:=by
 induction l generalizing j with
 | nil=>simp at h
 | cons d t ih =>
  cases j with
  | zero=>simp[wsum];omega
  | succ j =>
   simp only[List.length_cons,Nat.add_lt_add_iff_right]at h;simp only[List.set_cons_succ,wsum,List.getElem_cons_succ];rw[ih j h,Nat.pow_succ,Nat.mul_add,←Nat.mul_assoc x,Nat.mul_comm (x*256^j) 256];omega
theorem wsum_append (l:List Nat) (x:Nat):wsum (l++[x])=wsum l+x*256^l.length:=by
 induction l with
 | nil=>simp[wsum]
 | cons d t ih =>
  rw[List.cons_append,wsum,wsum,ih,List.length_cons,Nat.pow_succ,Nat.mul_add,←Nat.mul_assoc x,Nat.mul_comm (x*256^t.length) 256];omega
theorem wsum_take (l:List Nat) (k:Nat) (h:k<l.length):wsum (l.take (k+1))=wsum (l.take k)+l[k]*256^k:=by
 rw[List.take_succ_eq_append_getElem h,wsum_append,List.length_take_of_le (by omega)]
theorem wsum_fit (l:List Nat) (n v:Nat) (hl:n≤l.length) (hv:wsum l=v) (hf:v<256^n):wsum (l.take n)=v:=by
 induction h:l.length-n generalizing l with
 | zero=>rw[List.take_of_length_le (by omega)];exact hv
 | succ m ih =>
  have hb:l.length≠0:=by omega
  have e:=wsum_take l (l.length-1) (by omega);rw[show l.length-1+1=l.length by omega,List.take_of_length_le (Nat.le_refl _),hv]at e
  have hz:l[l.length-1]=0:=by
   rcases Nat.eq_zero_or_pos l[l.length-1] with h0 | h0
   ·exact h0
   ·have h1:1*256^(l.length-1)≤l[l.length-1]*256^(l.length-1):=Nat.mul_le_mul_right _ h0;have h2:256^n≤256^(l.length-1):=Nat.pow_le_pow_right (by decide) (by omega);omega
  rw[hz,Nat.zero_mul,Nat.add_zero]at e;have:=ih (l.take (l.length-1)) (by simp;omega) e.symm (by simp;omega);rwa [List.take_take,Nat.min_eq_left (by omega)]at this
theorem col_step (S:List Nat) (k c x:Nat) (t:List UInt8) (hk:k<S.length) (hl:t.length=k) (hv:val t+c*256^k=wsum (S.take k)) (hx:x=S[k]+c) :
  val (UInt8.ofNat (x%256) :: t)+x / 256*256^(k+1)=wsum (S.take (k+1)):=by
 rw[wsum_take S k hk,val_cons,UInt8.toNat_ofNat',hl,Nat.mod_eq_of_lt (by have:=Nat.mod_lt x (show 0<256 by decide);omega),Nat.pow_succ];have h:=Nat.div_add_mod x 256
 have h2:x%256*256^k+x / 256*(256^k*256)=x*256^k:=by
  have:(256*(x / 256)+x%256)*256^k=x*256^k:=by rw[h]
  rw[Nat.add_mul]at this;rw[Nat.mul_comm (256^k) 256,←Nat.mul_assoc,Nat.mul_comm (x / 256) 256];omega
 have h3:x*256^k=S[k]*256^k+c*256^k:=by rw[hx,Nat.add_mul]
 omega
theorem col_end (n c v:Nat) (S:List Nat) (t:List UInt8) (hl:t.length=n) (hn:n≤S.length) (hv:val t+c*256^n=wsum (S.take n)) (hs:wsum S=v) (hf:v<256^n):val t=v:=by
 rw[wsum_fit S n v hn hs hf]at hv;rcases Nat.eq_zero_or_pos c with h0 | h0
 ·subst h0;omega
 ·have h1:1*256^n≤c*256^n:=Nat.mul_le_mul_right _ h0;omega
def ColB (M:Nat) (S:List Nat) (i m:Nat):Prop:=∀j x,S[j]?=some x→x≤M*i+if j<m then M else 0
theorem ColB.zeros (M n:Nat):ColB M (List.replicate n 0) 0 0:=by
 intro j x h;rw[List.getElem?_replicate]at h;split at h
 ·simp only[Option.some.injEq]at h;omega
 ·simp at h
theorem ColB.start {M:Nat} {S:List Nat} {i:Nat} (h:ColB M S i 0):ColB M S i i:=by
 intro j x hj;have:=h j x hj;simp only[Nat.not_lt_zero,if_false]at this;split <;> omega
theorem ColB.next {M:Nat} {S:List Nat} {i m:Nat} (h:ColB M S i m):ColB M S (i+1) 0:=by
 intro j x hj;have:=h j x hj;rw[if_neg (Nat.not_lt_zero _),Nat.mul_add,Nat.mul_one];split at this <;> omega
theorem ColB.step {M:Nat} {S:List Nat} {i m p:Nat} (h:ColB M S i m) (hm:m<S.length) (hp:p≤M):ColB M (S.set m (S[m]+p)) i (m+1):=by
 intro j x hj;rw[List.getElem?_set]at hj;split at hj
 ·rename_i hb;subst hb;simp only[hm,if_true,Option.some.injEq]at hj;have:=h m S[m] (List.getElem?_eq_getElem hm);rw[if_neg (Nat.lt_irrefl _)]at this;rw[if_pos (Nat.lt_succ_self _)];omega
 ·have:=h j x hj;split at this
  ·rw[if_pos (by omega)];omega
  ·split <;> omega
theorem ColB.at {M:Nat} {S:List Nat} {i m j:Nat} (h:ColB M S i m) (hj:j<S.length):S[j]≤M*i+M:=by
 have:=h j S[j] (List.getElem?_eq_getElem hj);split at this <;> omega
theorem prod_step (S:List Nat) (A b i k da:Nat) (h:i+k<S.length) (hs:wsum S=A*b+da*256^i*(b%256^k)) :
  wsum (S.set (i+k) (S[i+k]+da*(b / 256^k%256)))=A*b+da*256^i*(b%256^(k+1)):=by
 rw[wsum_set S (i+k) _ h,hs,mod_succ,Nat.mul_add,Nat.pow_add]
 have:da*(b / 256^k%256)*(256^i*256^k)=da*256^i*(b / 256^k%256*256^k):=by
  rw[Nat.mul_assoc,Nat.mul_assoc,Nat.mul_left_comm (b / 256^k%256)]
 omega
theorem prod_row (a b i m:Nat) (hb:b<256^m):a%256^i*b+a / 256^i%256*256^i*(b%256^m)=a%256^(i+1)*b:=by
 rw[mod_succ,Nat.mod_eq_of_lt hb,Nat.add_mul];omega
end
section
/- Binary digits of numbers: hc many there are,and which are 1. Plain Lean. -/
def nb (n:Nat):Nat:=if n=0 then 0 else n.log2+1
def bitB (n i:Nat):Bool:=n / 2^i%2==1
theorem lt_nb (n:Nat):n<2^nb n:=by
 unfold nb;by_cases h:n=0
 ·simp[h]
 ·rw[if_neg h];exact Nat.lt_log2_self
theorem nb_low (n:Nat) (h:n≠0):2^(nb n-1)≤n:=by
 unfold nb;rw[if_neg h,Nat.add_sub_cancel];exact Nat.log2_self_le h
theorem nb_zero:nb 0=0:=rfl
theorem nb_pos (n:Nat) (h:0<n):0<nb n:=by unfold nb;rw[if_neg (by omega)];omega
theorem nb_of (n m:Nat) (h0:0<m) (h1:2^(m-1)≤n) (h2:n<2^m):nb n=m:=by
 have hp:0<2^(m-1):=Nat.pow_pos (by decide);have hn:n≠0:=by omega
 have a:=lt_nb n;have b:=nb_low n hn;have hb:=nb_pos n (by omega);have c1:2^(nb n-1)<2^m:=Nat.lt_of_le_of_lt b h2;have c2:2^(m-1)<2^nb n:=Nat.lt_of_le_of_lt h1 a;rw[Nat.pow_lt_pow_iff_right (by decide)]at c1 c2;omega
theorem nb_half (n:Nat) (h:0<n):nb n=1+nb (n / 2):=by
 by_cases h1:n=1
 ·subst h1;decide
 ·have hp:=nb_pos (n / 2) (by omega);have a:=lt_nb (n / 2);have b:=nb_low (n / 2) (by omega);refine nb_of n _ (by omega) ?_ ?_
  ·rw[show 1+nb (n / 2)-1=(nb (n / 2)-1)+1 by omega,Nat.pow_succ];omega
  ·rw[Nat.add_comm,Nat.pow_succ];omega
theorem nb_shift (n k:Nat) (h:2^k≤n):nb n=k+nb (n / 2^k):=by
 have hk:0<2^k:=Nat.pow_pos (by decide);have hq:0<n / 2^k:=Nat.div_pos h hk;have hp:=nb_pos (n / 2^k) hq;have a:=lt_nb (n / 2^k);have b:=nb_low (n / 2^k) (by omega);refine nb_of n _ (by omega) ?_ ?_
 ·rw[show k+nb (n / 2^k)-1=(nb (n / 2^k)-1)+k by omega,Nat.pow_add];exact (Nat.le_div_iff_mul_le hk).1 b
 ·rw[Nat.add_comm,Nat.pow_add];exact (Nat.div_lt_iff_lt_mul hk).1 a
theorem nb_byte:∀x:Fin 256,Lib.bitLen x.val=nb x.val:=by decide +kernel
theorem pow256 (k:Nat):256^k=2^(8*k):=by rw[Nat.pow_mul]
theorem nb_first (n:Nat) (h:0<n):nb n=8*((enc n).length-1)+nb (n / 256^((enc n).length-1)):=by
 have hl:¬ (enc n).length≤(enc n).length-1:=by
  have:0<(enc n).length:=by
   rcases Nat.eq_zero_or_pos (enc n).length with h0 | h0
   ·have:=(enc_length_le n 0).1 (by omega);simp at this;omega
   ·exact h0
  omega
 rw[enc_length_le]at hl;rw[pow256]at hl ⊢;exact nb_shift n _ (by omega)
theorem first_byte (n:Nat) (h:0<n):0<n / 256^((enc n).length-1)∧n / 256^((enc n).length-1)<256:=by
 have hp:0<(enc n).length:=by
  rcases Nat.eq_zero_or_pos (enc n).length with h0 | h0
  ·have:=(enc_length_le n 0).1 (by omega);simp at this;omega
  ·exact h0
 have hl:¬ (enc n).length≤(enc n).length-1:=by omega
 rw[enc_length_le]at hl;have hu:=(enc_length_le n (enc n).length).1 (Nat.le_refl _);have hk:0<256^((enc n).length-1):=Nat.pow_pos (by decide);refine⟨Nat.div_pos (by omega) hk,?_⟩;rw[Nat.div_lt_iff_lt_mul hk,Nat.mul_comm,←Nat.pow_succ];rwa [show ((enc n).length-1).succ=(enc n).length by omega]
theorem bit_byte (n i:Nat):n / 256^(i / 8)%256 / 2^(i%8)%2=n / 2^i%2:=by
 have hr:i%8<8:=Nat.mod_lt _ (by decide)
 have e:n / 2^i=n / 256^(i / 8) / 2^(i%8):=by
  rw[pow256,Nat.div_div_eq_div_mul,←Nat.pow_add,Nat.div_add_mod]
 rw[e];generalize n / 256^(i / 8)=m;generalize i%8=r at hr;have:r=0∨r=1∨r=2∨r=3∨r=4∨r=5∨r=6∨r=7:=by omega
 rcases this with rfl | rfl | rfl | rfl | rfl | rfl | rfl | rfl <;> simp only[Nat.pow_zero,Nat.reducePow] <;> omega
theorem bit_split (n i:Nat):n / 2^i=2*(n / 2^(i+1))+n / 2^i%2:=by
 rw[Nat.pow_succ,←Nat.div_div_eq_div_mul];omega
theorem bit_one {n i:Nat} (h:bitB n i=true):n / 2^i=2*(n / 2^(i+1))+1:=by
 have:=bit_split n i;unfold bitB at h;rw[beq_iff_eq]at h;omega
theorem bit_nil {n i:Nat} (h:bitB n i=false):n / 2^i=2*(n / 2^(i+1)):=by
 have:=bit_split n i;unfold bitB at h;rw[beq_eq_false_iff_ne]at h;omega
end
end Go.Proofs.YtihjpddbjhcbmaaGreatDoor
