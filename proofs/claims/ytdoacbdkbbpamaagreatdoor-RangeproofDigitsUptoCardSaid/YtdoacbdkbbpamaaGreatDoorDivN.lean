import Derived.Test.YtdoacbdkbbpamaaGreatDoorNat2
import Derived.Lib.BitFns
import Derived.StillTailTactics
set_option linter.unusedVariables false
set_option linter.unusedSimpArgs false
set_option maxRecDepth 100000
set_option maxHeartbeats 16000000
namespace Go.Proofs.YtdoacbdkbbpamaaGreatDoor
section
/- Binary digits of numbers: how many there are,and which are 1. Plain Lean. -/
def nb (n:Nat):Nat:=if n=0 then 0 else n.log2+1
def bitB (n i:Nat):Bool:=n / 2^i%2==1
theorem lt_nb (n:Nat):n<2^nb n:=by
 unfold nb;by_cases h:n=0
 ·simp [h]
 ·rw [if_neg h];exact Nat.lt_log2_self
theorem nb_low (n:Nat) (h:n≠0):2^(nb n-1)≤n:=by
 unfold nb;rw [if_neg h,Nat.add_sub_cancel];exact Nat.log2_self_le h
theorem nb_zero:nb 0=0:=rfl
theorem nb_pos (n:Nat) (h:0<n):0<nb n:=by unfold nb;rw [if_neg (by omega)];omega
theorem nb_of (n m:Nat) (h0:0<m) (h1:2^(m-1)≤n) (h2:n<2^m):nb n=m:=by
 have hp:0<2^(m-1):=Nat.pow_pos (by decide);have hn:n≠0:=by omega
 have a:=lt_nb n;have b:=nb_low n hn;have hnb:=nb_pos n (by omega);have c1:2^(nb n-1)<2^m:=Nat.lt_of_le_of_lt b h2;have c2:2^(m-1)<2^nb n:=Nat.lt_of_le_of_lt h1 a;rw [Nat.pow_lt_pow_iff_right (by decide)] at c1 c2;omega
theorem nb_half (n:Nat) (h:0<n):nb n=1+nb (n / 2):=by
 by_cases h1:n=1
 ·subst h1;decide
 ·have hp:=nb_pos (n / 2) (by omega);have a:=lt_nb (n / 2);have b:=nb_low (n / 2) (by omega);refine nb_of n _ (by omega) ?_ ?_
  ·rw [show 1+nb (n / 2)-1=(nb (n / 2)-1)+1 by omega,Nat.pow_succ];omega
  ·rw [Nat.add_comm,Nat.pow_succ];omega
theorem nb_shift (n k:Nat) (h:2^k≤n):nb n=k+nb (n / 2^k):=by
 have hk:0<2^k:=Nat.pow_pos (by decide);have hq:0<n / 2^k:=Nat.div_pos h hk;have hp:=nb_pos (n / 2^k) hq;have a:=lt_nb (n / 2^k);have b:=nb_low (n / 2^k) (by omega);refine nb_of n _ (by omega) ?_ ?_
 ·rw [show k+nb (n / 2^k)-1=(nb (n / 2^k)-1)+k by omega,Nat.pow_add];exact (Nat.le_div_iff_mul_le hk).1 b
 ·rw [Nat.add_comm,Nat.pow_add];exact (Nat.div_lt_iff_lt_mul hk).1 a
theorem nb_byte:∀x:Fin 256,Lib.bitLen x.val=nb x.val:=by decide +kernel
theorem pow256 (k:Nat):256^k=2^(8*k):=by rw [Nat.pow_mul]
theorem nb_first (n:Nat) (h:0<n):nb n=8*((enc n).length-1)+nb (n / 256^((enc n).length-1)):=by
 have hl:¬ (enc n).length≤(enc n).length-1:=by
  have:0<(enc n).length:=by
   rcases Nat.eq_zero_or_pos (enc n).length with h0 | h0
   ·have:=(enc_length_le n 0).1 (by omega);simp at this;omega
   ·exact h0
  omega
 rw [enc_length_le] at hl;rw [pow256] at hl ⊢;exact nb_shift n _ (by omega)
theorem first_byte (n:Nat) (h:0<n):0<n / 256^((enc n).length-1)∧n / 256^((enc n).length-1)<256:=by
 have hp:0<(enc n).length:=by
  rcases Nat.eq_zero_or_pos (enc n).length with h0 | h0
  ·have:=(enc_length_le n 0).1 (by omega);simp at this;omega
  ·exact h0
 have hl:¬ (enc n).length≤(enc n).length-1:=by omega
 rw [enc_length_le] at hl;have hu:=(enc_length_le n (enc n).length).1 (Nat.le_refl _);have hk:0<256^((enc n).length-1):=Nat.pow_pos (by decide);refine ⟨Nat.div_pos (by omega) hk,?_⟩;rw [Nat.div_lt_iff_lt_mul hk,Nat.mul_comm,←Nat.pow_succ];rwa [show ((enc n).length-1).succ=(enc n).length by omega]
theorem bit_byte (n i:Nat):n / 256^(i / 8)%256 / 2^(i%8)%2=n / 2^i%2:=by
 have hr:i%8<8:=Nat.mod_lt _ (by decide)
 have e:n / 2^i=n / 256^(i / 8) / 2^(i%8):=by
  rw [pow256,Nat.div_div_eq_div_mul,←Nat.pow_add,Nat.div_add_mod]
 rw [e];generalize n / 256^(i / 8)=m;generalize i%8=r at hr;have:r=0∨r=1∨r=2∨r=3∨r=4∨r=5∨r=6∨r=7:=by omega
 rcases this with rfl | rfl | rfl | rfl | rfl | rfl | rfl | rfl <;> simp only [Nat.pow_zero,Nat.reducePow] <;> omega
theorem bit_split (n i:Nat):n / 2^i=2*(n / 2^(i+1))+n / 2^i%2:=by
 rw [Nat.pow_succ,←Nat.div_div_eq_div_mul];omega
theorem bit_one {n i:Nat} (h:bitB n i=true):n / 2^i=2*(n / 2^(i+1))+1:=by
 have:=bit_split n i;unfold bitB at h;rw [beq_iff_eq] at h;omega
theorem bit_nil {n i:Nat} (h:bitB n i=false):n / 2^i=2*(n / 2^(i+1)):=by
 have:=bit_split n i;unfold bitB at h;rw [beq_eq_false_iff_ne] at h;omega
end
section
/- Sums of columns: the value of a list of column sums,the least weight first. Plain Lean. -/
def wsum:List Nat→Nat
 | []=>0
 | d :: t=>d+256*wsum t
theorem wsum_zeros (n:Nat):wsum (List.replicate n 0)=0:=by
 induction n with
 | zero=>rfl
 | succ n ih=>rw [List.replicate_succ,wsum,ih]
theorem wsum_set (l:List Nat) (j x:Nat) (h:j<l.length):wsum (l.set j (l[j]+x))=wsum l+x*256^j:=by
 induction l generalizing j with
 | nil=>simp at h
 | cons d t ih =>
  cases j with
  | zero=>simp [wsum];omega
  | succ j =>
   simp only [List.length_cons,Nat.add_lt_add_iff_right] at h;simp only [List.set_cons_succ,wsum,List.getElem_cons_succ];rw [ih j h,Nat.pow_succ,Nat.mul_add,←Nat.mul_assoc x,Nat.mul_comm (x*256^j) 256];omega
theorem wsum_append (l:List Nat) (x:Nat):wsum (l++[x])=wsum l+x*256^l.length:=by
 induction l with
 | nil=>simp [wsum]
 | cons d t ih =>
  rw [List.cons_append,wsum,wsum,ih,List.length_cons,Nat.pow_succ,Nat.mul_add,←Nat.mul_assoc x,Nat.mul_comm (x*256^t.length) 256];omega
theorem wsum_take (l:List Nat) (k:Nat) (h:k<l.length):wsum (l.take (k+1))=wsum (l.take k)+l[k]*256^k:=by
 rw [List.take_succ_eq_append_getElem h,wsum_append,List.length_take_of_le (by omega)]
theorem wsum_fit (l:List Nat) (n v:Nat) (hl:n≤l.length) (hv:wsum l=v) (hf:v<256^n):wsum (l.take n)=v:=by
 induction h:l.length-n generalizing l with
 | zero=>rw [List.take_of_length_le (by omega)];exact hv
 | succ m ih =>
  have hlen:l.length≠0:=by omega
  have e:=wsum_take l (l.length-1) (by omega);rw [show l.length-1+1=l.length by omega,List.take_of_length_le (Nat.le_refl _),hv] at e
  have hz:l[l.length-1]=0:=by
   rcases Nat.eq_zero_or_pos l[l.length-1] with h0 | h0
   ·exact h0
   ·have h1:1*256^(l.length-1)≤l[l.length-1]*256^(l.length-1):=Nat.mul_le_mul_right _ h0;have h2:256^n≤256^(l.length-1):=Nat.pow_le_pow_right (by decide) (by omega);omega
  rw [hz,Nat.zero_mul,Nat.add_zero] at e;have:=ih (l.take (l.length-1)) (by simp;omega) e.symm (by simp;omega);rwa [List.take_take,Nat.min_eq_left (by omega)] at this
theorem col_step (S:List Nat) (k c x:Nat) (t:List UInt8) (hk:k<S.length) (hl:t.length=k) (hv:val t+c*256^k=wsum (S.take k)) (hx:x=S[k]+c) :
  val (UInt8.ofNat (x%256) :: t)+x / 256*256^(k+1)=wsum (S.take (k+1)):=by
 rw [wsum_take S k hk,val_cons,UInt8.toNat_ofNat',hl,Nat.mod_eq_of_lt (by have:=Nat.mod_lt x (show 0<256 by decide);omega),Nat.pow_succ];have h:=Nat.div_add_mod x 256
 have h2:x%256*256^k+x / 256*(256^k*256)=x*256^k:=by
  have:(256*(x / 256)+x%256)*256^k=x*256^k:=by rw [h]
  rw [Nat.add_mul] at this;rw [Nat.mul_comm (256^k) 256,←Nat.mul_assoc,Nat.mul_comm (x / 256) 256];omega
 have h3:x*256^k=S[k]*256^k+c*256^k:=by rw [hx,Nat.add_mul]
 omega
theorem col_end (n c v:Nat) (S:List Nat) (t:List UInt8) (hl:t.length=n) (hn:n≤S.length) (hv:val t+c*256^n=wsum (S.take n)) (hs:wsum S=v) (hf:v<256^n):val t=v:=by
 rw [wsum_fit S n v hn hs hf] at hv;rcases Nat.eq_zero_or_pos c with h0 | h0
 ·subst h0;omega
 ·have h1:1*256^n≤c*256^n:=Nat.mul_le_mul_right _ h0;omega
def ColB (M:Nat) (S:List Nat) (i m:Nat):Prop:=∀j x,S[j]?=some x→x≤M*i+if j<m then M else 0
theorem ColB.zeros (M n:Nat):ColB M (List.replicate n 0) 0 0:=by
 intro j x h;rw [List.getElem?_replicate] at h;split at h
 ·simp only [Option.some.injEq] at h;omega
 ·simp at h
theorem ColB.start {M:Nat} {S:List Nat} {i:Nat} (h:ColB M S i 0):ColB M S i i:=by
 intro j x hj;have:=h j x hj;simp only [Nat.not_lt_zero,if_false] at this;split <;> omega
theorem ColB.next {M:Nat} {S:List Nat} {i m:Nat} (h:ColB M S i m):ColB M S (i+1) 0:=by
 intro j x hj;have:=h j x hj;rw [if_neg (Nat.not_lt_zero _),Nat.mul_add,Nat.mul_one];split at this <;> omega
theorem ColB.step {M:Nat} {S:List Nat} {i m p:Nat} (h:ColB M S i m) (hm:m<S.length) (hp:p≤M):ColB M (S.set m (S[m]+p)) i (m+1):=by
 intro j x hj;rw [List.getElem?_set] at hj;split at hj
 ·rename_i hjm;subst hjm;simp only [hm,if_true,Option.some.injEq] at hj;have:=h m S[m] (List.getElem?_eq_getElem hm);rw [if_neg (Nat.lt_irrefl _)] at this;rw [if_pos (Nat.lt_succ_self _)];omega
 ·have:=h j x hj;split at this
  ·rw [if_pos (by omega)];omega
  ·split <;> omega
theorem ColB.at {M:Nat} {S:List Nat} {i m j:Nat} (h:ColB M S i m) (hj:j<S.length):S[j]≤M*i+M:=by
 have:=h j S[j] (List.getElem?_eq_getElem hj);split at this <;> omega
theorem prod_step (S:List Nat) (A b i k da:Nat) (h:i+k<S.length) (hs:wsum S=A*b+da*256^i*(b%256^k)) :
  wsum (S.set (i+k) (S[i+k]+da*(b / 256^k%256)))=A*b+da*256^i*(b%256^(k+1)):=by
 rw [wsum_set S (i+k) _ h,hs,mod_succ,Nat.mul_add,Nat.pow_add]
 have:da*(b / 256^k%256)*(256^i*256^k)=da*256^i*(b / 256^k%256*256^k):=by
  rw [Nat.mul_assoc,Nat.mul_assoc,Nat.mul_left_comm (b / 256^k%256)]
 omega
theorem prod_row (a b i m:Nat) (hb:b<256^m):a%256^i*b+a / 256^i%256*256^i*(b%256^m)=a%256^(i+1)*b:=by
 rw [mod_succ,Nat.mod_eq_of_lt hb,Nat.add_mul];omega
end
section
/- A region that draws its order: its first n operations are quiet in a class of worlds,the others follow in the one order that their edges leave. Then one walk in the order of the text serves every order. (The kit has this for operations that leave the very world;here the calls of the head may make memory.) -/
open Go.RowKit
section
variable {P:Program} {ops:Array Oper} {md:Region.Mode} {C:World→Prop}
def headQ (P:Program) (md:Region.Mode) (ops:Array Oper) (C:World→Prop) (n:Nat) (L:Array Bool→Act→Prop):Nat→Array Bool→Act→Prop
 | 0,done,a=>L done a
 | f+1,done,a=>Region.ready md ops done≠[] ∧
   ∀i∈Region.ready md ops done,i<n∧qOp P ops C i (headQ P md ops C n L f (done.setIfInBounds i true)) a
theorem headQ_any {n g:Nat} {L:Array Bool→Act→Prop} {Q:Exit→Act→World→Prop}
  (hL:∀done a w,C w→L done a→wpAny P md ops Q g done a w) :
  ∀(f:Nat) (done:Array Bool) (a:Act) (w:World),C w→headQ P md ops C n L f done a→wpAny P md ops Q (f+g) done a w:=by
 intro f;induction f with
 | zero=>intro done a w hC h;rw [Nat.zero_add];exact hL _ _ _ hC h
 | succ f ih =>
  intro done a w hC h;rw [show f+1+g=(f+g)+1 by omega];exact ⟨fun h0=>absurd h0 h.1,fun i hi=>wpOp_of_qOp hC (fun a' w' hw' h'=>ih _ a' w' hw' h') (h.2 i hi).2⟩
theorem headQ_first {n i:Nat} {oi:Oper} {v:Value} {L:Array Bool→Act→Prop} (hi:ops[i]?=some oi)
  (hsel:∀(j:Nat) (o:Oper) cs b,ops[j]?=some o→o.op≠.select cs b)
  (hs:Region.sinkB md ops n=true) (hc:Region.chainB md ops n=true) (hn:n<ops.size) (hin:i<n)
  (hL:∀done a,L done a→∀j∈Region.ready md ops done,n≤j) :
  ∀(f:Nat) (done:Array Bool) (a:Act),HeadInv md ops n done →
   (∀j oj,ops[j]?=some oj→j≠i→done.getD j true=false→(∀e∈oj.after,Region.binds md e=true→e.on≠i)→oi.apart ops oj=true) →
   i∈Region.ready md ops done→YieldsIn P ops C oi v a →
   headQ P md ops C n L f (done.setIfInBounds i true) (a.put oi.dst v)→headQ P md ops C n L (f+1) done a:=by
 intro f;induction f with
 | zero =>
  intro done a inv _ hr hy H;refine ⟨List.ne_nil_of_mem hr,fun j hj=>?_⟩
  have hjn:j<n:=by
   rcases Nat.lt_or_ge j n with h | h
   ·exact h
   ·exact absurd hj (tail_waits hs hc hn inv _ i rfl hin (mem_ready.1 hr).1 j h)
  by_cases hji:j=i
  ·subst hji;exact ⟨hjn,hy.qOp hi H⟩
  ·exact absurd (hL _ _ H j (ready_mono hj hji)) (by omega)
 | succ f ih =>
  intro done a inv hfree hr hy H;have hun:=(mem_ready.1 hr).1;refine ⟨List.ne_nil_of_mem hr,fun j hj=>?_⟩
  have hjn:j<n:=by
   rcases Nat.lt_or_ge j n with h | h
   ·exact h
   ·exact absurd hj (tail_waits hs hc hn inv _ i rfl hin hun j h)
  refine ⟨hjn,?_⟩;by_cases hji:j=i
  ·subst hji;exact hy.qOp hi H
  obtain ⟨hjun,oj,hoj,hall⟩:=mem_ready.1 hj
  have hnot:∀e∈oj.after,Region.binds md e=true→e.on≠i:=by
   intro e he hb heq;have h1:=hall e he hb;rw [heq,getD_both hun] at h1;exact Bool.noConfusion h1
  have h2:=qOp_put hoj (hfree j oj hoj hji hjun hnot) (fun cs b=>hsel i oi cs b hi) (fun cs b=>hsel j oj cs b hoj) hy (H.2 j (ready_mono hj hji)).2;refine qOp_mono (fun a' h3=>?_) h2;refine ih (done.setIfInBounds j true) a' (inv.set hj hjn) ?_ (ready_mono hr (Ne.symm hji)) h3.1 ?_
  ·intro k ok hk hki hun2 hno;refine hfree k ok hk hki ?_ hno;by_cases hjk:j=k
   ·subst hjk;exact hjun
   ·rwa [getD_set_ne true hjk] at hun2
  ·rw [Array.setIfInBounds_comm _ _ hji];exact h3.2
theorem headQ_lex {n g:Nat} {Lq:Act→Prop} (hsel:Region.noSelect ops=true) (hs:Region.sinkB md ops n=true) (hc:Region.chainB md ops n=true) (hn:n<ops.size) :
  ∀(l:List Oper) (k:Nat) (done:Array Bool) (a:Act),(∀j,j<l.length→l[j]?=ops[k+j]?)→k+l.length=n→HeadInv md ops n done →
  Region.lexHead md ops g l.length k done=true→wpQuiet P ops C Lq l a →
  headQ P md ops C n (fun d a'=>Region.seqB md ops g n d=true∧Lq a') l.length done a:=by
 intro l;induction l with
 | nil =>
  intro k done a _ hk _ hB h;obtain rfl:k=n:=by simpa using hk
  exact ⟨by simpa [Region.lexHead] using hB,h⟩
 | cons o l ih =>
  intro k done a hl hk inv hB h;have h0:ops[k]?=some o:=by simpa using (hl 0 (by simp)).symm
  simp only [List.length_cons,Region.lexHead,Bool.and_eq_true] at hB;obtain ⟨⟨hr,hf⟩,hB'⟩:=hB;simp only [List.length_cons] at hk;have hkn:k<n:=by omega
  have hr':k∈Region.ready md ops done:=by simpa using hr
  have hst:qOp P ops C k (wpQuiet P ops C Lq l) a:=by unfold qOp;simp only [h0];exact h
  obtain ⟨v,hy,hK⟩:=yieldsIn_of_qOp h0 hst;refine headQ_first h0 (Region.noSelect_spec hsel) hs hc hn hkn (fun _ _ hL=>seqB_ready hL.1) l.length done a inv (Region.free_spec h0 hf) hr' hy ?_;refine ih (k+1) _ _ (fun j hj=>?_) (by omega) (inv.set hr' hkn) hB' hK;have:=hl (j+1) (by simp;omega);simpa [Nat.add_assoc,Nat.add_comm 1 j] using this
theorem wp_region_quiet_tail {id:Nat} {Q:Exit→Act→World→Prop} {a:Act} {w:World} {l:List Oper} (n:Nat) (hm:P.follows .mixedOrders=true) (hB:Region.lexTailB .any l.toArray n=true)
  (hC:C { w with drawn:=w.drawn+1 }) (h:wpQuiet P l.toArray C (fun a'=>∀w',C w'→wpList P l.toArray Q (l.drop n) a' w') (l.take n) a):(Code.region id l.toArray true).wp P Q a w:=by
 simp only [Region.lexTailB,Bool.and_eq_true,decide_eq_true_eq] at hB;obtain ⟨⟨⟨⟨hsel,hn⟩,hs⟩,hc⟩,hlex⟩:=hB;have hn':n<l.length:=by simpa using hn
 have htl:(l.take n).length=n:=by simp;omega
 have hdl:(l.drop n).length=l.toArray.size-n:=by simp
 have inv0:HeadInv .any l.toArray n (Array.replicate l.toArray.size false):=
  ⟨by simp,fun j oj _ hl=>by rw [getD_replicate_false] at hl;exact Bool.noConfusion hl,fun t _ ht=>getD_in (by simpa using ht) (getD_replicate_false _ _)⟩
 have H:=headQ_lex (C:=C) (md:=.any) (g:=l.toArray.size-n) hsel hs hc hn (l.take n) 0 _ a
  (fun j hj=>by rw [htl] at hj;simp [hj]) (by simpa using htl) inv0 (by rw [htl];exact hlex) h
 refine wp_region_any hm ?_
 have H2:=headQ_any (Q:=Q) (g:=l.toArray.size-n) (fun done a' w' hw' hL=>by
  have h3:=wpAny_of_seq (md:=.any) (Q':=Q) (l.drop n) n done a' w' (fun j=>by simp [List.getElem?_drop]) (by rw [hdl];exact hL.1) (hL.2 w' hw');rwa [hdl] at h3) _ _ _ _ hC H
 rw [htl,show n+(l.toArray.size-n)=l.toArray.size by omega] at H2;exact H2
end
def GW (w:World):Type:={ w':World // Below w.heap.size w w' }
def gw {w:World} (x:GW w):World:=x.val
theorem gw_below {w:World} (x:GW w):Below w.heap.size w (gw x):=x.property
instance (w:World):Nonempty (GW w):=⟨⟨w,Below.refl _ _⟩⟩
theorem gw_mk {w w':World} (h:Below w.heap.size w w'):∃x:GW w,w'=gw x:=⟨⟨w',h⟩,rfl⟩
theorem gw_of {P:Program} {f:FuncId} {args:Array Value} {w:World} {x:GW w} {v:Value}
  (h:Calls P f args (gw x) fun e w''=>e=.returned v∧Below (gw x).heap.size (gw x) w''):Calls P f args (gw x) fun e w''=>e=.returned v∧∃y:GW w,w''=gw y:=
 h.mono fun _ _ ⟨he,hb⟩=>⟨he,gw_mk ((gw_below x).trans (hb.mono (gw_below x).size))⟩
theorem gw_same {P:Program} {f:FuncId} {args:Array Value} {w:World} {x:GW w} {v:Value}
  (h:Calls P f args (gw x) fun e w''=>e=.returned v∧gw x=w''):Calls P f args (gw x) fun e w''=>e=.returned v∧∃y:GW w,w''=gw y:=
 h.mono fun _ _ ⟨he,hb⟩=>⟨he,x,hb.symm⟩
theorem Blk.gw {w:World} {g:Nat} {T:TypeId} {cs:List Value} (h:Blk w g T cs) (x:GW w):Blk (gw x) g T cs:=h.after (gw_below x)
theorem Blk.gcell {w:World} {g:Nat} {T:TypeId} {cs:List Value} (h:Blk w g T cs) (j:Nat):∀x:GW w,(Proofs.YtdoacbdkbbpamaaGreatDoor.gw x).cell? ⟨g,j,none⟩=cs[j]?:=fun x=>(h.gw x).cell j
theorem wp_region_gw {P:Program} {id:Nat} {Q:Exit→Act→World→Prop} {a:Act} {w:World} {l:List Oper} (hm:P.follows .mixedOrders=true) (hB:Region.lexB .any l.toArray=true)
  (h:wpQuiet P l.toArray (fun w'=>∃x:GW w,w'=gw x) (fun a'=>∀w',(∃x:GW w,w'=gw x)→Q .normal a' w') l a):(Code.region id l.toArray true).wp P Q a w:=
 wp_region_quiet (C:=fun w'=>∃x:GW w,w'=gw x) hm hB (gw_mk (Below.refl _ _).drew) (by simpa using h)
theorem wp_region_gw_tail {P:Program} {id:Nat} {Q:Exit→Act→World→Prop} {a:Act} {w:World} {l:List Oper} (n:Nat) (hm:P.follows .mixedOrders=true) (hB:Region.lexTailB .any l.toArray n=true)
  (h:wpQuiet P l.toArray (fun w'=>∃x:GW w,w'=gw x) (fun a'=>∀w',(∃x:GW w,w'=gw x)→wpList P l.toArray Q (l.drop n) a' w') (l.take n) a):(Code.region id l.toArray true).wp P Q a w:=
 wp_region_quiet_tail n hm hB (gw_mk (Below.refl _ _).drew) h
end
section
/- one step of Knuth's division with two digits,in natural numbers -/
section
variable {B Y Y1 Y0 U D q r:Nat}
theorem kn_lt (hY:Y=Y1*B+Y0) (hU:U<Y) (hD:D<B):(U*B+D) / Y<B:=by
 rw [Nat.div_lt_iff_lt_mul (by omega)];have:(U+1)*B≤Y*B:=Nat.mul_le_mul_right B hU;have h2:(U+1)*B=U*B+B:=by rw [Nat.add_mul,Nat.one_mul]
 have h3:B*Y=Y*B:=Nat.mul_comm _ _;omega
theorem kn_le (hY:Y=Y1*B+Y0) (hY1:0<Y) (hq:q*Y1+r=U) (h:q*Y0≤B*r+D):q≤(U*B+D) / Y:=by
 rw [Nat.le_div_iff_mul_le hY1,hY,Nat.mul_add,←Nat.mul_assoc,←hq,Nat.add_mul,Nat.mul_comm r B];omega
theorem kn_gt (hY:Y=Y1*B+Y0) (hY1:0<Y) (hq:q*Y1+r=U) (h:B*r+D<q*Y0):(U*B+D) / Y<q:=by
 rw [Nat.div_lt_iff_lt_mul hY1,hY,Nat.mul_add,←Nat.mul_assoc,←hq,Nat.add_mul,Nat.mul_comm r B];omega
theorem kn_start (hY:Y=Y1*B+Y0) (h1:0<Y1) (h0:Y0<B):(U*B+D) / Y≤(U*B+D) / (Y1*B):=
 Nat.div_le_div_left (by omega) (Nat.mul_pos h1 (by omega))
theorem kn_first (hY:Y=Y1*B+Y0) (h1:0<Y1) (h0:Y0<B) (hD:D<B):(U*B+D) / Y≤U / Y1:=by
 refine Nat.le_trans (kn_start hY h1 h0) ?_;rw [Nat.mul_comm Y1 B,←Nat.div_div_eq_div_mul,Nat.mul_comm U B,Nat.mul_add_div (by omega),Nat.div_eq_of_lt hD,Nat.add_zero];exact Nat.le_refl _
theorem kn_break (hY:Y=Y1*B+Y0) (h0:Y0<B) (hU:U<Y) (hq:q*Y1+r=U) (hr:B≤r):q*Y0≤B*r+D:=by
 have h1:q*Y1<B*Y1:=by rw [Nat.mul_comm B Y1];omega
 have h2:q<B:=Nat.lt_of_mul_lt_mul_right h1;have h3:q*Y0≤B*Y0:=Nat.mul_le_mul_right _ (by omega);have h4:B*Y0≤B*r:=Nat.mul_le_mul_left _ (by omega);omega
theorem kn_down (hq:q*Y1+r=U) (h:0<q):(q-1)*Y1+(r+Y1)=U:=by
 have:q=q-1+1:=by omega
 rw [this,Nat.add_mul,Nat.one_mul] at hq;omega
end
theorem kn_two (n0 n1 n2 Y B:Nat) (hY:0<Y) :
  ((n0*B+n1)*B+n2) / Y=(n0*B+n1) / Y*B+((n0*B+n1)%Y*B+n2) / Y:=by
 have h:=Nat.div_add_mod (n0*B+n1) Y
 have:(n0*B+n1)*B+n2=Y*((n0*B+n1) / Y*B)+((n0*B+n1)%Y*B+n2):=by
  conv=>lhs;rw [←h]
  rw [Nat.add_mul,Nat.mul_assoc,Nat.add_assoc]
 rw [this,Nat.mul_add_div hY]
theorem kn_two_mod (n0 n1 n2 Y B:Nat) (hY:0<Y) :
  ((n0*B+n1)*B+n2)%Y=((n0*B+n1)%Y*B+n2)%Y:=by
 have h:=Nat.div_add_mod (n0*B+n1) Y
 have:(n0*B+n1)*B+n2=Y*((n0*B+n1) / Y*B)+((n0*B+n1)%Y*B+n2):=by
  conv=>lhs;rw [←h]
  rw [Nat.add_mul,Nat.mul_assoc,Nat.add_assoc]
 rw [this,Nat.mul_add_mod]
theorem kn_scale (N y t:Nat) (ht:0<t):(N*t) / (y*t)=N / y∧(N*t)%(y*t) / t=N%y:=by
 refine ⟨Nat.mul_div_mul_right _ _ ht,?_⟩;rw [Nat.mul_mod_mul_right,Nat.mul_div_cancel _ ht]
end
end Go.Proofs.YtdoacbdkbbpamaaGreatDoor
