/- What a prover returns is accepted. Plain Lean. -/
import Derived.Test.YtihjpddbjhcbmaaGreatDoorDrp
set_option linter.unusedVariables false
set_option linter.unusedSimpArgs false
set_option maxRecDepth 100000
set_option maxHeartbeats 16000000
namespace Go.Proofs.YtihjpddbjhcbmaaGreatDoor
section
/- Powers of powers in a group,for exponents of either sign. Plain Lean. -/
theorem pow_one_of (y q k p:Nat) (h:y^q%p=1%p):(y^k%p)^q%p=1%p:=by
 rw[←Nat.pow_mod,←Nat.pow_mul,Nat.mul_comm,Nat.pow_mul,Nat.pow_mod,h,←Nat.pow_mod,Nat.one_pow]
theorem inv_pow_one (b y q p:Nat) (hb:b^q%p=1%p) (hy:b*y%p=1%p):y^q%p=1%p:=by
 have h1:(b*y)^q%p=1%p:=by rw[Nat.pow_mod,hy,←Nat.pow_mod,Nat.one_pow]
 rw[Nat.mul_pow,Nat.mul_mod,hb,←Nat.mul_mod,Nat.one_mul]at h1;exact h1
theorem hasB_of {p q x:Nat} (hq:0<q) (hp:2≤p) (hx:x<p) (h:x^q%p=1%p):hasB p q x=true:=by
 unfold hasB;rw[if_neg (by omega),decide_eq_true_iff];refine⟨?_,hx,h⟩;rintro rfl;rw[Nat.zero_pow hq,Nat.zero_mod,Nat.mod_eq_of_lt (show 1<p by omega)]at h;omega
theorem hasB_pow1 {p q x:Nat} (hq:0<q) (h:hasB p q x=true):x^q%p=1%p:=by
 unfold hasB at h;rw[if_neg (by omega),decide_eq_true_iff]at h;exact h.2.2
theorem has_powI {p q x:Nat} (z:Int) (hp:2≤p) (hq:0<q) (h:hasB p q x=true):hasB p q (powI x z p)=true:=by
 have h1:=hasB_pow1 hq h;have hlt:=has_lt h;unfold powI;split
 ·refine hasB_of hq hp (Nat.mod_lt _ (by omega)) (pow_one_of _ _ _ _ ?_);rw[Nat.mod_eq_of_lt hlt];exact inv_pow_one x _ q p h1 (invN_spec x p (by omega) (has_coprime hp h))
 ·exact hasB_of hq hp (Nat.mod_lt _ (by omega)) (pow_one_of _ _ _ _ h1)
theorem unit_pow {u v p:Nat} (k:Nat) (h:u*v%p=1%p):u^k*v^k%p=1%p:=by
 rw[←Nat.mul_pow,Nat.pow_mod,h,←Nat.pow_mod,Nat.one_pow]
theorem unit_coprime {u v p:Nat} (hp:2≤p) (h:u*v%p=1%p):Nat.gcd u p=1:=by
 have h2:Nat.gcd u p∣u*v%p:=(Nat.dvd_mod_iff (Nat.gcd_dvd_right u p)).2 (Nat.dvd_trans (Nat.gcd_dvd_left u p) (Nat.dvd_mul_right _ _));rw[h,Nat.mod_eq_of_lt (by omega)]at h2;exact Nat.dvd_one.1 h2
theorem inv_pow {u v p:Nat} (k:Nat) (hp:2≤p) (h:u*v%p=1%p):invN (u^k%p%p) p=v^k%p:=by
 have h1:u^k%p%p*(v^k%p)%p=1%p:=by rw[Nat.mod_mod,←Nat.mul_mod];exact unit_pow k h
 exact (inv_eq _ p _ (by omega) (unit_coprime hp h1) (Nat.mod_lt _ (by omega)) h1).symm
theorem pow_pow_mod (u a b p:Nat):(u^a%p)^b%p=u^(a*b)%p:=by
 rw[←Nat.pow_mod,Nat.pow_mul]
theorem powI_powI {p x:Nat} (a b:Int) (hp:2≤p) (hx:x<p) (hg:Nat.gcd x p=1):powI (powI x a p) b p=powI x (a*b) p:=by
 have hi:x*invN x p%p=1%p:=invN_spec x p (by omega) hg;have hd:invN x p*x%p=1%p:=by rw[Nat.mul_comm];exact hi
 have e0:x%p=x:=Nat.mod_eq_of_lt hx;have en:(a*b).natAbs=a.natAbs*b.natAbs:=Int.natAbs_mul a b;by_cases ha:a<0
 ·by_cases hb:b<0
  ·have hc:¬ a*b<0:=by have:=Int.mul_pos_of_neg_of_neg ha hb;omega
   unfold powI;rw[if_pos ha,if_pos hb,if_neg hc,e0,inv_pow _ hp hd,pow_pow_mod,en]
  ·by_cases he:b=0
   ·subst he;rw[Int.mul_zero];unfold powI;simp
   ·have hc:a*b<0:=Int.mul_neg_of_neg_of_pos ha (by omega);unfold powI;rw[if_pos ha,if_neg hb,if_pos hc,e0,pow_pow_mod,en]
 ·by_cases hb:b<0
  ·by_cases hf:a=0
   ·subst hf
    have h1:invN (1%p) p=1%p:=by
     have:=inv_pow (u:=x) 0 hp hi;simpa using this
    rw[Int.zero_mul];have e1:powI x 0 p=1%p:=by unfold powI;rw[if_neg (by decide)];rfl
    rw[e1];unfold powI;rw[if_pos hb,Nat.mod_mod,h1,←Nat.pow_mod,Nat.one_pow]
   ·have hc:a*b<0:=Int.mul_neg_of_pos_of_neg (by omega) hb;unfold powI;rw[if_neg ha,if_pos hb,if_pos hc,e0,inv_pow _ hp hi,pow_pow_mod,en]
  ·have hc:¬ a*b<0:=by have:=Int.mul_nonneg (show 0≤a by omega) (show 0≤b by omega);omega
   unfold powI;rw[if_neg ha,if_neg hb,if_neg hc,pow_pow_mod,en]
theorem has_powIq {p q x:Nat} (z:Int) (hp:2≤p) (h:hasB p q x=true):hasB p q (powI x z p)=true:=by
 by_cases hq:q=0
 ·subst hq;have hg:=has_coprime hp h;have hx:=has_lt h;have e:=powI_powI z (-1) hp hx hg
  have hu:Nat.gcd (powI x z p) p=1:=by
   have hi:x*invN x p%p=1%p:=invN_spec x p (by omega) hg;unfold powI;rw[Nat.mod_eq_of_lt hx];split
   ·have:invN x p^z.natAbs%p*(x^z.natAbs%p)%p=1%p:=by rw[←Nat.mul_mod];exact unit_pow _ (by rw[Nat.mul_comm];exact hi)
    exact unit_coprime hp this
   ·have:x^z.natAbs%p*(invN x p^z.natAbs%p)%p=1%p:=by rw[←Nat.mul_mod];exact unit_pow _ hi
    exact unit_coprime hp this
  have hl:powI x z p<p:=by unfold powI;split <;> exact Nat.mod_lt _ (by omega)
  unfold hasB;rw[if_pos rfl,decide_eq_true_iff];refine⟨fun h0=>?_,hl,hu⟩;rw[h0,Nat.gcd_zero_left]at hu;omega
 ·exact has_powI z hp (by omega) h
theorem has_mulq {p q x y:Nat} (hp:2≤p) (hx:hasB p q x=true) (hy:hasB p q y=true):hasB p q (x*y%p)=true:=by
 have hl:x*y%p<p:=Nat.mod_lt _ (by omega);by_cases hq:q=0
 ·subst hq;have h1:x*invN x p%p=1%p:=invN_spec x p (by omega) (has_coprime hp hx);have h2:y*invN y p%p=1%p:=invN_spec y p (by omega) (has_coprime hp hy)
  have h3:x*y%p*(invN x p*invN y p)%p=1%p:=by
   rw[Nat.mod_mul_mod,Nat.mul_mul_mul_comm,Nat.mul_mod,h1,h2,←Nat.mul_mod,Nat.one_mul]
  have hu:=unit_coprime hp h3;unfold hasB;rw[if_pos rfl,decide_eq_true_iff];refine⟨fun h0=>?_,hl,hu⟩;rw[h0,Nat.gcd_zero_left]at hu;omega
 ·refine hasB_of (by omega) hp hl ?_;rw[←Nat.pow_mod,Nat.mul_pow,Nat.mul_mod,hasB_pow1 (by omega) hx,hasB_pow1 (by omega) hy,←Nat.mul_mod,Nat.one_mul]
def prodK (p:Nat) (L:List Nat) (X:List Int) (k:Nat):Nat:=pw (prs p (L.take k) (X.take k)) 0%p
theorem prodK_one {p x:Nat} {z:Int} {L:List Nat} {X:List Int} (hx:x<p):prodK p (x :: L) (z :: X) 1=powI x z p:=by
 unfold prodK;simp only[List.take_succ_cons,List.take_zero];exact pw1_eq z hx
theorem prodK_step {p k:Nat} {L:List Nat} {X:List Int} (h1:k<L.length) (h2:k<X.length) (hx:L[k]<p):prodK p L X k*powI L[k] X[k] p%p=prodK p L X (k+1):=prodI_step p L X k h1 h2 hx
theorem has_one {p q:Nat} (hp:2≤p):hasB p q 1=true:=by
 unfold hasB;split
 ·rw[decide_eq_true_iff];exact⟨by decide,by omega,Nat.gcd_one_left p⟩
 ·rw[decide_eq_true_iff];exact⟨by decide,by omega,by rw[Nat.one_pow]⟩
theorem prodK_has {p q:Nat} {L:List Nat} {X:List Int} (hp:2≤p) (hl:X.length=L.length) (hx:∀x∈L,hasB p q x=true):∀k,k≤L.length→hasB p q (prodK p L X k)=true:=by
 intro k;induction k with
 | zero =>
  intro _
  have:prodK p L X 0=1:=by
   unfold prodK;simp only[List.take_zero,prs,List.zipWith_nil_left,pw];exact Nat.mod_eq_of_lt (by omega)
  rw[this];exact has_one hp
 | succ k ih =>
  intro h;have hk:k<L.length:=by omega
  have hb:=hx _ (Gm hk);rw[←prodK_step hk (by omega) (has_lt hb)];exact has_mulq hp (ih (by omega)) (has_powIq _ hp hb)
theorem prodK_end {p k:Nat} {L:List Nat} {X:List Int} (h1:L.length≤k) (h2:X.length≤k):prodK p L X k=pw (prs p L X) 0%p:=by
 unfold prodK;rw[List.take_of_length_le h1,List.take_of_length_le h2]
def msgX (c:Nat) (Z:List Int) (q:NEqn):List Int:=-(c:Int) :: imgX Z q
def msgB (q:NEqn):List Nat:=q.tgt :: imgB q
def msgQ (N:NSta) (c:Nat) (Z:List Int) (q:NEqn):Nat:=pw (prs (N.gp q).1 (msgB q) (msgX c Z q)) 0%(N.gp q).1
def NSta.msgs (N:NSta) (c:Nat) (Z:List Int):List Nat:=N.eqs.map (msgQ N c Z)
theorem msgs_step (N:NSta) (c:Nat) (Z:List Int) (k:Nat) (h:k<N.eqs.length):(N.msgs c Z).take (k+1)=(N.msgs c Z).take k++[msgQ N c Z N.eqs[k]]:=by
 unfold NSta.msgs;rw[←List.map_take,List.take_succ_eq_append_getElem h,List.map_append,List.map_take];rfl
theorem msg_len (c:Nat) (Z:List Int) (q:NEqn):(msgX c Z q).length=(msgB q).length:=by simp[msgX,msgB,imgX,imgB]
theorem msg_stepK {p c k:Nat} {Z:List Int} {q:NEqn} (hk:k<q.trms.length) (hp:2≤p) (hx:q.trms[k].base<p) (hg:Nat.gcd q.trms[k].base p=1) :
  prodK p (msgB q) (msgX c Z q) (k+1)*powI (powI q.trms[k].base q.trms[k].coef p) (Z.getD q.trms[k].var 0) p%p=prodK p (msgB q) (msgX c Z q) (k+2):=by
 have h1:k+1<(msgB q).length:=by simp[msgB,imgB];omega
 have h2:k+1<(msgX c Z q).length:=by simp[msgX,imgX];omega
 have e1:(msgB q)[k+1]=q.trms[k].base:=by simp[msgB,imgB]
 have e2:(msgX c Z q)[k+1]=q.trms[k].coef*Z.getD q.trms[k].var 0:=by simp[msgX,imgX]
 rw[powI_powI _ _ hp hx hg,←e1,←e2];exact prodK_step h1 h2 (by rw[e1];exact hx)
end
section
/- Two accepted proofs with one first message: in each equation the powers with the differences give 1. -/
open Go.RowKit Go.Shelf
end
section
open Go.RowKit Go.Shelf
end
end Go.Proofs.YtihjpddbjhcbmaaGreatDoor
