/- Regions that draw their order,by what holds of each operation that is done and of the world: for regions that append and store. -/
import Derived.Test.YtdoacbdkbbpamaaGreatDoorNat2
import Derived.Lib.BitFns
import Derived.Test.YtdoacbdkbbpamaaGreatDoorRinv
set_option linter.unusedVariables false
set_option linter.unusedSimpArgs false
set_option maxRecDepth 100000
set_option maxHeartbeats 16000000
namespace Go.Proofs.YtdoacbdkbbpamaaGreatDoor
section
/- Binary digits of numbers: how many there are,and which are 1. Plain Lean. -/
def nb (n:Nat):Nat:=if n=0 then 0 else n.log2+1
def bitB (n i:Nat):Bool:=n / 2^i%2==1
theorem lt_nb (n:Nat):n<2^nb n:=by
 unfold nb;by_cases h:n=0
 ·simp [h]
 ·rw [if_neg h];exact Nat.lt_log2_self
theorem nb_low (n:Nat) (h:n≠0):2^(nb n-1)≤n:=by
 unfold nb;rw [if_neg h,Nat.add_sub_cancel];exact Nat.log2_self_le h
theorem nb_zero:nb 0=0:=rfl
theorem nb_pos (n:Nat) (h:0<n):0<nb n:=by unfold nb;rw [if_neg (by omega)];omega
theorem nb_of (n m:Nat) (h0:0<m) (h1:2^(m-1)≤n) (h2:n<2^m):nb n=m:=by
 have hp:0<2^(m-1):=Nat.pow_pos (by decide);have hn:n≠0:=by omega
 have a:=lt_nb n;have b:=nb_low n hn;have hnb:=nb_pos n (by omega);have c1:2^(nb n-1)<2^m:=Nat.lt_of_le_of_lt b h2;have c2:2^(m-1)<2^nb n:=Nat.lt_of_le_of_lt h1 a;rw [Nat.pow_lt_pow_iff_right (by decide)] at c1 c2;omega
theorem nb_half (n:Nat) (h:0<n):nb n=1+nb (n / 2):=by
 by_cases h1:n=1
 ·subst h1;decide
 ·have hp:=nb_pos (n / 2) (by omega);have a:=lt_nb (n / 2);have b:=nb_low (n / 2) (by omega);refine nb_of n _ (by omega) ?_ ?_
  ·rw [show 1+nb (n / 2)-1=(nb (n / 2)-1)+1 by omega,Nat.pow_succ];omega
  ·rw [Nat.add_comm,Nat.pow_succ];omega
theorem nb_shift (n k:Nat) (h:2^k≤n):nb n=k+nb (n / 2^k):=by
 have hk:0<2^k:=Nat.pow_pos (by decide);have hq:0<n / 2^k:=Nat.div_pos h hk;have hp:=nb_pos (n / 2^k) hq;have a:=lt_nb (n / 2^k);have b:=nb_low (n / 2^k) (by omega);refine nb_of n _ (by omega) ?_ ?_
 ·rw [show k+nb (n / 2^k)-1=(nb (n / 2^k)-1)+k by omega,Nat.pow_add];exact (Nat.le_div_iff_mul_le hk).1 b
 ·rw [Nat.add_comm,Nat.pow_add];exact (Nat.div_lt_iff_lt_mul hk).1 a
theorem nb_byte:∀x:Fin 256,Lib.bitLen x.val=nb x.val:=by decide +kernel
theorem pow256 (k:Nat):256^k=2^(8*k):=by rw [Nat.pow_mul]
theorem nb_first (n:Nat) (h:0<n):nb n=8*((enc n).length-1)+nb (n / 256^((enc n).length-1)):=by
 have hl:¬ (enc n).length≤(enc n).length-1:=by
  have:0<(enc n).length:=by
   rcases Nat.eq_zero_or_pos (enc n).length with h0 | h0
   ·have:=(enc_length_le n 0).1 (by omega);simp at this;omega
   ·exact h0
  omega
 rw [enc_length_le] at hl;rw [pow256] at hl ⊢;exact nb_shift n _ (by omega)
theorem first_byte (n:Nat) (h:0<n):0<n / 256^((enc n).length-1)∧n / 256^((enc n).length-1)<256:=by
 have hp:0<(enc n).length:=by
  rcases Nat.eq_zero_or_pos (enc n).length with h0 | h0
  ·have:=(enc_length_le n 0).1 (by omega);simp at this;omega
  ·exact h0
 have hl:¬ (enc n).length≤(enc n).length-1:=by omega
 rw [enc_length_le] at hl;have hu:=(enc_length_le n (enc n).length).1 (Nat.le_refl _);have hk:0<256^((enc n).length-1):=Nat.pow_pos (by decide);refine ⟨Nat.div_pos (by omega) hk,?_⟩;rw [Nat.div_lt_iff_lt_mul hk,Nat.mul_comm,←Nat.pow_succ];rwa [show ((enc n).length-1).succ=(enc n).length by omega]
theorem bit_byte (n i:Nat):n / 256^(i / 8)%256 / 2^(i%8)%2=n / 2^i%2:=by
 have hr:i%8<8:=Nat.mod_lt _ (by decide)
 have e:n / 2^i=n / 256^(i / 8) / 2^(i%8):=by
  rw [pow256,Nat.div_div_eq_div_mul,←Nat.pow_add,Nat.div_add_mod]
 rw [e];generalize n / 256^(i / 8)=m;generalize i%8=r at hr;have:r=0∨r=1∨r=2∨r=3∨r=4∨r=5∨r=6∨r=7:=by omega
 rcases this with rfl | rfl | rfl | rfl | rfl | rfl | rfl | rfl <;> simp only [Nat.pow_zero,Nat.reducePow] <;> omega
theorem bit_split (n i:Nat):n / 2^i=2*(n / 2^(i+1))+n / 2^i%2:=by
 rw [Nat.pow_succ,←Nat.div_div_eq_div_mul];omega
theorem bit_one {n i:Nat} (h:bitB n i=true):n / 2^i=2*(n / 2^(i+1))+1:=by
 have:=bit_split n i;unfold bitB at h;rw [beq_iff_eq] at h;omega
theorem bit_nil {n i:Nat} (h:bitB n i=false):n / 2^i=2*(n / 2^(i+1)):=by
 have:=bit_split n i;unfold bitB at h;rw [beq_eq_false_iff_ne] at h;omega
end
section
/- Sums of columns: the value of a list of column sums,the least weight first. Plain Lean. -/
def wsum:List Nat→Nat
 | []=>0
 | d :: t=>d+256*wsum t
theorem wsum_zeros (n:Nat):wsum (List.replicate n 0)=0:=by
 induction n with
 | zero=>rfl
 | succ n ih=>rw [List.replicate_succ,wsum,ih]
theorem wsum_set (l:List Nat) (j x:Nat) (h:j<l.length):wsum (l.set j (l[j]+x))=wsum l+x*256^j:=by
 induction l generalizing j with
 | nil=>simp at h
 | cons d t ih =>
  cases j with
  | zero=>simp [wsum];omega
  | succ j =>
   simp only [List.length_cons,Nat.add_lt_add_iff_right] at h;simp only [List.set_cons_succ,wsum,List.getElem_cons_succ];rw [ih j h,Nat.pow_succ,Nat.mul_add,←Nat.mul_assoc x,Nat.mul_comm (x*256^j) 256];omega
theorem wsum_append (l:List Nat) (x:Nat):wsum (l++[x])=wsum l+x*256^l.length:=by
 induction l with
 | nil=>simp [wsum]
 | cons d t ih =>
  rw [List.cons_append,wsum,wsum,ih,List.length_cons,Nat.pow_succ,Nat.mul_add,←Nat.mul_assoc x,Nat.mul_comm (x*256^t.length) 256];omega
theorem wsum_take (l:List Nat) (k:Nat) (h:k<l.length):wsum (l.take (k+1))=wsum (l.take k)+l[k]*256^k:=by
 rw [List.take_succ_eq_append_getElem h,wsum_append,List.length_take_of_le (by omega)]
theorem wsum_take_le (l:List Nat) (k:Nat):wsum (l.take k)≤wsum l:=by
 induction l generalizing k with
 | nil=>simp
 | cons d t ih =>
  cases k with
  | zero=>simp [wsum]
  | succ k=>simp only [List.take_succ_cons,wsum];have:=ih k;omega
theorem wsum_fit (l:List Nat) (n v:Nat) (hl:n≤l.length) (hv:wsum l=v) (hf:v<256^n):wsum (l.take n)=v:=by
 induction h:l.length-n generalizing l with
 | zero=>rw [List.take_of_length_le (by omega)];exact hv
 | succ m ih =>
  have hlen:l.length≠0:=by omega
  have e:=wsum_take l (l.length-1) (by omega);rw [show l.length-1+1=l.length by omega,List.take_of_length_le (Nat.le_refl _),hv] at e
  have hz:l[l.length-1]=0:=by
   rcases Nat.eq_zero_or_pos l[l.length-1] with h0 | h0
   ·exact h0
   ·have h1:1*256^(l.length-1)≤l[l.length-1]*256^(l.length-1):=Nat.mul_le_mul_right _ h0;have h2:256^n≤256^(l.length-1):=Nat.pow_le_pow_right (by decide) (by omega);omega
  rw [hz,Nat.zero_mul,Nat.add_zero] at e;have:=ih (l.take (l.length-1)) (by simp;omega) e.symm (by simp;omega);rwa [List.take_take,Nat.min_eq_left (by omega)] at this
theorem col_step (S:List Nat) (k c x:Nat) (t:List UInt8) (hk:k<S.length) (hl:t.length=k) (hv:val t+c*256^k=wsum (S.take k)) (hx:x=S[k]+c) :
  val (UInt8.ofNat (x%256) :: t)+x / 256*256^(k+1)=wsum (S.take (k+1)):=by
 rw [wsum_take S k hk,val_cons,UInt8.toNat_ofNat',hl,Nat.mod_eq_of_lt (by have:=Nat.mod_lt x (show 0<256 by decide);omega),Nat.pow_succ];have h:=Nat.div_add_mod x 256
 have h2:x%256*256^k+x / 256*(256^k*256)=x*256^k:=by
  have:(256*(x / 256)+x%256)*256^k=x*256^k:=by rw [h]
  rw [Nat.add_mul] at this;rw [Nat.mul_comm (256^k) 256,←Nat.mul_assoc,Nat.mul_comm (x / 256) 256];omega
 have h3:x*256^k=S[k]*256^k+c*256^k:=by rw [hx,Nat.add_mul]
 omega
theorem col_end (n c v:Nat) (S:List Nat) (t:List UInt8) (hl:t.length=n) (hn:n≤S.length) (hv:val t+c*256^n=wsum (S.take n)) (hs:wsum S=v) (hf:v<256^n):val t=v:=by
 rw [wsum_fit S n v hn hs hf] at hv;rcases Nat.eq_zero_or_pos c with h0 | h0
 ·subst h0;omega
 ·have h1:1*256^n≤c*256^n:=Nat.mul_le_mul_right _ h0;omega
def ColB (M:Nat) (S:List Nat) (i m:Nat):Prop:=∀j x,S[j]?=some x→x≤M*i+if j<m then M else 0
theorem ColB.zeros (M n:Nat):ColB M (List.replicate n 0) 0 0:=by
 intro j x h;rw [List.getElem?_replicate] at h;split at h
 ·simp only [Option.some.injEq] at h;omega
 ·simp at h
theorem ColB.start {M:Nat} {S:List Nat} {i:Nat} (h:ColB M S i 0):ColB M S i i:=by
 intro j x hj;have:=h j x hj;simp only [Nat.not_lt_zero,if_false] at this;split <;> omega
theorem ColB.next {M:Nat} {S:List Nat} {i m:Nat} (h:ColB M S i m):ColB M S (i+1) 0:=by
 intro j x hj;have:=h j x hj;rw [if_neg (Nat.not_lt_zero _),Nat.mul_add,Nat.mul_one];split at this <;> omega
theorem ColB.step {M:Nat} {S:List Nat} {i m p:Nat} (h:ColB M S i m) (hm:m<S.length) (hp:p≤M):ColB M (S.set m (S[m]+p)) i (m+1):=by
 intro j x hj;rw [List.getElem?_set] at hj;split at hj
 ·rename_i hjm;subst hjm;simp only [hm,if_true,Option.some.injEq] at hj;have:=h m S[m] (List.getElem?_eq_getElem hm);rw [if_neg (Nat.lt_irrefl _)] at this;rw [if_pos (Nat.lt_succ_self _)];omega
 ·have:=h j x hj;split at this
  ·rw [if_pos (by omega)];omega
  ·split <;> omega
theorem ColB.at {M:Nat} {S:List Nat} {i m j:Nat} (h:ColB M S i m) (hj:j<S.length):S[j]≤M*i+M:=by
 have:=h j S[j] (List.getElem?_eq_getElem hj);split at this <;> omega
theorem prod_step (S:List Nat) (A b i k da:Nat) (h:i+k<S.length) (hs:wsum S=A*b+da*256^i*(b%256^k)) :
  wsum (S.set (i+k) (S[i+k]+da*(b / 256^k%256)))=A*b+da*256^i*(b%256^(k+1)):=by
 rw [wsum_set S (i+k) _ h,hs,mod_succ,Nat.mul_add,Nat.pow_add]
 have:da*(b / 256^k%256)*(256^i*256^k)=da*256^i*(b / 256^k%256*256^k):=by
  rw [Nat.mul_assoc,Nat.mul_assoc,Nat.mul_left_comm (b / 256^k%256)]
 omega
theorem prod_row (a b i m:Nat) (hb:b<256^m):a%256^i*b+a / 256^i%256*256^i*(b%256^m)=a%256^(i+1)*b:=by
 rw [mod_succ,Nat.mod_eq_of_lt hb,Nat.add_mul];omega
end
section
open Go.RowKit
abbrev RVB:=List Bool→Nat→Value→World→Prop
def stB (S:List Nat) (done:Array Bool):List Bool:=S.map fun s=>done.getD s false
theorem stB_set {S:List Nat} {done:Array Bool} {i:Nat} (hi:i<done.size) (h:i ∉ S):stB S (done.setIfInBounds i true)=stB S done:=by
 unfold stB;refine List.map_congr_left fun s hs=>?_
 have hne:¬ s=i:=fun e=>h (by rw [←e];exact hs)
 rw [getD_set _ _ _ hi,if_neg hne]
theorem stB_none (S:List Nat) (n:Nat):stB S (Array.replicate n false)=S.map fun _=>false:=by
 unfold stB;refine List.map_congr_left fun s _=>?_
 rw [Array.getD_eq_getD_getElem?,Array.getElem?_replicate];split <;> rfl
theorem stB_all {S:List Nat} {done:Array Bool} {n:Nat} (hd:∀i,i<n→done.getD i false=true) (hS:(S.all fun s=>decide (s<n))=true):stB S done=S.map fun _=>true:=by
 unfold stB;refine List.map_congr_left fun s hs=>?_
 rw [List.all_eq_true] at hS;exact hd s (of_decide_eq_true (hS s hs))
structure RInvB (ops:Array Oper) (V:RVB) (S:List Nat) (B:Nat) (F:List Bool→World→Prop) (w0:World) (a0:Act) (done:Array Bool) (a:Act) (w:World):Prop where
 sz:done.size=ops.size
 df:a.defers=a0.defers
 ts:a.tmps.size=a0.tmps.size
 bw:Below B w0 w
 ex:F (stB S done) w
 un:∀k,(∀i o,ops[i]?=some o→done.getD i false=true→o.dst≠some k)→a.tmps[k]?=a0.tmps[k]?
 pr:∀i o,ops[i]?=some o→done.getD i false=true→∀e∈o.after,Region.binds .any e=true→done.getD e.on false=true
 dn:∀i o d,ops[i]?=some o→done.getD i false=true→o.dst=some d→∃v,a.tmps[d]?=some v∧V (stB S done) i v w
theorem RInvB.put {ops:Array Oper} {V:RVB} {S:List Nat} {B:Nat} {F:List Bool→World→Prop} {w0 w w':World} {a0 a:Act} {done:Array Bool} {i d:Nat} {o:Oper} {v:Value} (h:RInvB ops V S B F w0 a0 done a w) (hs:slotsB ops a0.tmps.size=true) (ho:ops[i]?=some o) (hd:o.dst=some d) (hpre:∀e∈o.after,Region.binds .any e=true→done.getD e.on false=true) 
  (hb:Below B w0 w') (hF:F (stB S (done.setIfInBounds i true)) w') (hk:∀j q,ops[j]?=some q→j≠i→done.getD j false=true→∀u,V (stB S done) j u w→V (stB S (done.setIfInBounds i true)) j u w') (hv:V (stB S (done.setIfInBounds i true)) i v w'):RInvB ops V S B F w0 a0 (done.setIfInBounds i true) (a.put o.dst v) w':=by
 have hi:i<done.size:=by rw [h.sz];exact (Array.getElem?_eq_some_iff.1 ho).1
 have hdl:d<a.tmps.size:=by rw [h.ts];exact slots_lt hs ho hd
 have e1:(a.put o.dst v).tmps=a.tmps.setIfInBounds d v:=by rw [hd];rfl
 refine ⟨by rw [Array.size_setIfInBounds];exact h.sz,by rw [hd];exact h.df,by rw [e1,Array.size_setIfInBounds];exact h.ts,hb,hF,fun k hk=>?_,fun j q hq hdn e he hbi=>by
  rw [getD_set _ _ _ hi] at hdn ⊢;split
  ·rfl
  ·rename_i hne;by_cases hji:j=i
   ·subst hji;rw [ho] at hq;injection hq with hq;subst hq
    exact hpre e he hbi
   ·rw [if_neg hji] at hdn;exact h.pr j q hq hdn e he hbi,fun j q e hq hdn he=>?_⟩
 ·have hne:d≠k:=fun e=>hk i o ho (by rw [getD_set _ _ _ hi,if_pos rfl]) (by rw [hd,e])
  rw [e1,Array.getElem?_setIfInBounds,if_neg hne];exact h.un k fun j q hq hdn=>hk j q hq (by rw [getD_set _ _ _ hi];split <;> first | rfl | exact hdn)
 ·rw [e1,Array.getElem?_setIfInBounds];by_cases hji:j=i
  ·subst hji;rw [ho] at hq;injection hq with hq;subst hq
   rw [hd] at he;injection he with he;subst he
   rw [if_pos rfl,if_pos hdl];exact ⟨v,rfl,hv⟩
  ·have hne:d≠e:=fun x=>hji (slots_ne hs hq (by rw [he,x]) ho hd)
   rw [getD_set _ _ _ hi,if_neg hji] at hdn;rw [if_neg hne];obtain ⟨u,h1,h2⟩:=h.dn j q e hq hdn he;exact ⟨u,h1,hk j q hq hji hdn u h2⟩
theorem RInvB.skip {ops:Array Oper} {V:RVB} {S:List Nat} {B:Nat} {F:List Bool→World→Prop} {w0 w w':World} {a0 a:Act} {done:Array Bool} {i:Nat} {o:Oper} {v:Value} (h:RInvB ops V S B F w0 a0 done a w) (ho:ops[i]?=some o) (hd:o.dst=none) (hpre:∀e∈o.after,Region.binds .any e=true→done.getD e.on false=true) 
  (hb:Below B w0 w') (hF:F (stB S (done.setIfInBounds i true)) w') (hk:∀j q,ops[j]?=some q→j≠i→done.getD j false=true→∀d u,q.dst=some d→a.tmps[d]?=some u→V (stB S done) j u w→V (stB S (done.setIfInBounds i true)) j u w'):RInvB ops V S B F w0 a0 (done.setIfInBounds i true) (a.put o.dst v) w':=by
 have hi:i<done.size:=by rw [h.sz];exact (Array.getElem?_eq_some_iff.1 ho).1
 have e1:(a.put o.dst v)=a:=by rw [hd];rfl
 rw [e1]
 refine ⟨by rw [Array.size_setIfInBounds];exact h.sz,h.df,h.ts,hb,hF,fun k hk=>h.un k fun j q hq hdn=>hk j q hq (by rw [getD_set _ _ _ hi];split <;> first | rfl | exact hdn),fun j q hq hdn e he hbi=>by
  rw [getD_set _ _ _ hi] at hdn ⊢;split
  ·rfl
  ·rename_i hne;by_cases hji:j=i
   ·subst hji;rw [ho] at hq;injection hq with hq;subst hq
    exact hpre e he hbi
   ·rw [if_neg hji] at hdn;exact h.pr j q hq hdn e he hbi,fun j q e hq hdn he=>?_⟩
 by_cases hji:j=i
 ·subst hji;rw [ho] at hq;injection hq with hq;subst hq
  rw [hd] at he;cases he
 ·rw [getD_set _ _ _ hi,if_neg hji] at hdn;obtain ⟨u,h1,h2⟩:=h.dn j q e hq hdn he;exact ⟨u,h1,hk j q hq hji hdn e u he h1 h2⟩
theorem wp_region_invB {P:Program} {id:Nat} {ops:Array Oper} {Q:Exit→Act→World→Prop} {a:Act} {w:World} (V:RVB) (S:List Nat) (B:Nat) (F:List Bool→World→Prop) (n:Nat) (hF0:F (S.map fun _=>false) w.drew) (hm:P.follows .mixedOrders=true) (hn:a.tmps.size=n) (hsl:slotsB ops n=true)
  (hs:slotsB ops a.tmps.size=true→∀done a' w' i o,RInvB ops V S B F w a done a' w'→ops[i]?=some o→done.getD i false=false→(∀e∈o.after,Region.binds .any e=true→done.getD e.on false=true)→wpOp P ops Q i (RInvB ops V S B F w a (done.setIfInBounds i true)) a' w')
  (he:∀done a' w',RInvB ops V S B F w a done a' w'→(∀i,i<ops.size→done.getD i false=true)→Q .normal a' w') (hac:backB ops=true):(Code.region id ops true).wp P Q a w:=by
 refine wp_region_any hm ?_;refine wpAny_inv (RInvB ops V S B F w a) (fun _ _ _ h=>h.sz) (fun done a' w' i hI hi=>?_) (fun done a' w' hI hr=>he done a' w' hI (back_done hac done hI.sz hr)) _ _ _ _ ?_ ?_
 ·obtain ⟨hun,o,ho,h⟩:=mem_ready.1 hi;refine hs (by rw [hn];exact hsl) done a' w' i o hI ho ?_ h;rw [Array.getD_eq_getD_getElem?] at hun ⊢;cases hx:done[i]? with
  | none=>rfl
  | some b=>rw [hx] at hun;exact hun
 ·refine ⟨by simp,rfl,rfl,(Below.refl _ _).drew,by rw [stB_none];exact hF0,fun _ _=>rfl,fun i o ho hd=>?_,fun i o d ho hd _=>?_⟩
  ·rw [Array.getD_eq_getD_getElem?] at hd;simp only [Array.getElem?_replicate] at hd;split at hd <;> simp at hd
  rw [Array.getD_eq_getD_getElem?] at hd;simp only [Array.getElem?_replicate] at hd;split at hd <;> simp at hd
 ·simp
theorem RInvB.all {ops:Array Oper} {V:RVB} {S:List Nat} {B:Nat} {F:List Bool→World→Prop} {w0 w:World} {a0 a:Act} {done:Array Bool} (h:RInvB ops V S B F w0 a0 done a w) (hd:∀i,i<ops.size→done.getD i false=true) :
  ∃f:Nat→Value,a=putAll ops f a0 ops.size∧∀i o d,ops[i]?=some o→o.dst=some d→V (stB S done) i (f i) w:=by
 refine ⟨slotF ops a,?_,fun i o d ho hod=>?_⟩
 ·have ht:a.tmps=(putAll ops (slotF ops a) a0 ops.size).tmps:=by
   apply Array.ext_getElem?
   intro k;obtain ⟨_,h2,h3,_⟩:=putAll_at (ops:=ops) (a:=a0) (a':=a) h.ts ops.size k;by_cases he:∃i,i<ops.size∧(ops[i]?).bind (·.dst)=some k
   ·exact (h2 he).symm
   ·rw [h3 fun i hi e=>he ⟨i,hi,e⟩];refine h.un k fun i o ho _ e=>he ⟨i,(Array.getElem?_eq_some_iff.1 ho).1,by rw [ho];exact e⟩
  have hf:=(putAll_at (ops:=ops) (a:=a0) (a':=a) h.ts ops.size 0).2.2.2;generalize putAll ops (slotF ops a) a0 ops.size=b at ht hf ⊢;obtain ⟨bt1,bd1⟩:=b;obtain ⟨at1,ad1⟩:=a;have:=h.df;simp only [] at ht hf this ⊢;subst ht;rw [hf,this]
 ·obtain ⟨v,h1,h2⟩:=h.dn i o d ho (hd i (Array.getElem?_eq_some_iff.1 ho).1) hod;have e0:slotF ops a i=v:=by unfold slotF;simp only [ho,Option.bind_some,hod,Array.getD_eq_getD_getElem?,h1,Option.getD_some]
  rw [e0];exact h2
theorem RInvB.op {P:Program} {ops:Array Oper} {V:RVB} {S:List Nat} {B:Nat} {F:List Bool→World→Prop} {Q:Exit→Act→World→Prop} {w0 w:World} {a0 a:Act} {done:Array Bool} {i d:Nat} {o:Oper} (h:RInvB ops V S B F w0 a0 done a w) (hs:slotsB ops a0.tmps.size=true) (hst:∀b j u w w',Below w.heap.size w w'→V b j u w→V b j u w')
  (hFt:∀b w w',Below w.heap.size w w'→F b w→F b w') (hw0:B≤w.heap.size) (ho:ops[i]?=some o) (hd:o.dst=some d) (hgd:o.guard=none) (hS:i ∉ S) (hpre:∀e∈o.after,Region.binds .any e=true→done.getD e.on false=true) 
  (hwp:Oper.wp P o a w (fun a' w'=>∃v,a'=a.put o.dst v∧Below w.heap.size w w'∧V (stB S done) i v w') Q):wpOp P ops Q i (RInvB ops V S B F w0 a0 (done.setIfInBounds i true)) a w:=by
 refine wpOp_step ho fun K' hK=>?_
 have hw:Region.wanted o (yielded ops a.tmps)=true:=by simp [Region.wanted,hgd]
 rw [if_pos hw];refine Oper.wp_mono (fun a' w' hx=>hK a' w' ?_) hwp;obtain ⟨v,rfl,hb,hv⟩:=hx;have hi:i<done.size:=by rw [h.sz];exact (Array.getElem?_eq_some_iff.1 ho).1
 have e:stB S (done.setIfInBounds i true)=stB S done:=stB_set hi hS;exact h.put hs ho hd hpre (h.bw.trans (hb.mono hw0)) (by rw [e];exact hFt _ _ _ hb h.ex) (fun j q _ _ _ u hu=>by rw [e];exact hst _ _ _ _ _ hb hu) (by rw [e];exact hv)
theorem RInvB.keep {ops:Array Oper} {V:RVB} {S:List Nat} {B:Nat} {F:List Bool→World→Prop} {w0 w:World} {a0 a:Act} {done:Array Bool} (h:RInvB ops V S B F w0 a0 done a w) (k:Nat) (v:Value) (hv:a0.tmps[k]?=some v) (hk:((List.range ops.size).all fun i=>(ops[i]?).bind (·.dst) != some k)=true):a.tmps[k]?=some v:=by
 rw [h.un k fun i o ho _ e=>?_,hv];rw [List.all_eq_true] at hk;have:=hk i (List.mem_range.2 (Array.getElem?_eq_some_iff.1 ho).1);rw [ho,Option.bind_some,e] at this;simp at this
end
end Go.Proofs.YtdoacbdkbbpamaaGreatDoor
