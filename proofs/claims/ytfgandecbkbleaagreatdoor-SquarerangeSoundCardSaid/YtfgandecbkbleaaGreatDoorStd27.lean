/- The statement for a lower bound: its form,its limits. Plain Lean. -/
import Derived.Test.YtfgandecbkbleaaGreatDoorSat1
import Derived.Test.YtfgandecbkbleaaGreatDoorRSet2
import Derived.Test.YtfgandecbkbleaaGreatDoorLd16
set_option linter.unusedVariables false
set_option linter.unusedSimpArgs false
set_option maxRecDepth 100000
set_option maxHeartbeats 16000000
namespace Go.Proofs.YtfgandecbkbleaaGreatDoor
section
/- Powers of powers in a group,for exponents of either sign. Plain Lean. -/
theorem pow_one_of (y q k p:Nat) (h:y^q%p=1%p):(y^k%p)^q%p=1%p:=by
 rw [←Nat.pow_mod,←Nat.pow_mul,Nat.mul_comm,Nat.pow_mul,Nat.pow_mod,h,←Nat.pow_mod,Nat.one_pow]
theorem inv_pow_one (b y q p:Nat) (hb:b^q%p=1%p) (hy:b*y%p=1%p):y^q%p=1%p:=by
 have h1:(b*y)^q%p=1%p:=by rw [Nat.pow_mod,hy,←Nat.pow_mod,Nat.one_pow]
 rw [Nat.mul_pow,Nat.mul_mod,hb,←Nat.mul_mod,Nat.one_mul] at h1;exact h1
theorem hasB_of {p q x:Nat} (hq:0<q) (hp:2≤p) (hx:x<p) (h:x^q%p=1%p):hasB p q x=true:=by
 unfold hasB;rw [if_neg (by omega),decide_eq_true_iff];refine ⟨?_,hx,h⟩;rintro rfl;rw [Nat.zero_pow hq,Nat.zero_mod,Nat.mod_eq_of_lt (show 1<p by omega)] at h;omega
theorem hasB_pow1 {p q x:Nat} (hq:0<q) (h:hasB p q x=true):x^q%p=1%p:=by
 unfold hasB at h;rw [if_neg (by omega),decide_eq_true_iff] at h;exact h.2.2
theorem has_powI {p q x:Nat} (z:Int) (hp:2≤p) (hq:0<q) (h:hasB p q x=true):hasB p q (powI x z p)=true:=by
 have h1:=hasB_pow1 hq h;have hlt:=has_lt h;unfold powI;split
 ·refine hasB_of hq hp (Nat.mod_lt _ (by omega)) (pow_one_of _ _ _ _ ?_);rw [Nat.mod_eq_of_lt hlt];exact inv_pow_one x _ q p h1 (invN_spec x p (by omega) (has_coprime hp h))
 ·exact hasB_of hq hp (Nat.mod_lt _ (by omega)) (pow_one_of _ _ _ _ h1)
theorem unit_pow {u v p:Nat} (k:Nat) (h:u*v%p=1%p):u^k*v^k%p=1%p:=by
 rw [←Nat.mul_pow,Nat.pow_mod,h,←Nat.pow_mod,Nat.one_pow]
theorem unit_coprime {u v p:Nat} (hp:2≤p) (h:u*v%p=1%p):Nat.gcd u p=1:=by
 have h2:Nat.gcd u p∣u*v%p:=(Nat.dvd_mod_iff (Nat.gcd_dvd_right u p)).2 (Nat.dvd_trans (Nat.gcd_dvd_left u p) (Nat.dvd_mul_right _ _));rw [h,Nat.mod_eq_of_lt (by omega)] at h2;exact Nat.dvd_one.1 h2
theorem inv_pow {u v p:Nat} (k:Nat) (hp:2≤p) (h:u*v%p=1%p):invN (u^k%p%p) p=v^k%p:=by
 have h1:u^k%p%p*(v^k%p)%p=1%p:=by rw [Nat.mod_mod,←Nat.mul_mod];exact unit_pow k h
 exact (inv_eq _ p _ (by omega) (unit_coprime hp h1) (Nat.mod_lt _ (by omega)) h1).symm
theorem pow_pow_mod (u a b p:Nat):(u^a%p)^b%p=u^(a*b)%p:=by
 rw [←Nat.pow_mod,Nat.pow_mul]
theorem powI_powI {p x:Nat} (a b:Int) (hp:2≤p) (hx:x<p) (hg:Nat.gcd x p=1):powI (powI x a p) b p=powI x (a*b) p:=by
 have hi:x*invN x p%p=1%p:=invN_spec x p (by omega) hg;have hi2:invN x p*x%p=1%p:=by rw [Nat.mul_comm];exact hi
 have e0:x%p=x:=Nat.mod_eq_of_lt hx;have en:(a*b).natAbs=a.natAbs*b.natAbs:=Int.natAbs_mul a b;by_cases ha:a<0
 ·by_cases hb:b<0
  ·have hab:¬ a*b<0:=by have:=Int.mul_pos_of_neg_of_neg ha hb;omega
   unfold powI;rw [if_pos ha,if_pos hb,if_neg hab,e0,inv_pow _ hp hi2,pow_pow_mod,en]
  ·by_cases hb0:b=0
   ·subst hb0;rw [Int.mul_zero];unfold powI;simp
   ·have hab:a*b<0:=Int.mul_neg_of_neg_of_pos ha (by omega);unfold powI;rw [if_pos ha,if_neg hb,if_pos hab,e0,pow_pow_mod,en]
 ·by_cases hb:b<0
  ·by_cases ha0:a=0
   ·subst ha0
    have h1:invN (1%p) p=1%p:=by
     have:=inv_pow (u:=x) 0 hp hi;simpa using this
    rw [Int.zero_mul];have e1:powI x 0 p=1%p:=by unfold powI;rw [if_neg (by decide)];rfl
    rw [e1];unfold powI;rw [if_pos hb,Nat.mod_mod,h1,←Nat.pow_mod,Nat.one_pow]
   ·have hab:a*b<0:=Int.mul_neg_of_pos_of_neg (by omega) hb;unfold powI;rw [if_neg ha,if_pos hb,if_pos hab,e0,inv_pow _ hp hi,pow_pow_mod,en]
  ·have hab:¬ a*b<0:=by have:=Int.mul_nonneg (show 0≤a by omega) (show 0≤b by omega);omega
   unfold powI;rw [if_neg ha,if_neg hb,if_neg hab,pow_pow_mod,en]
theorem has_powIq {p q x:Nat} (z:Int) (hp:2≤p) (h:hasB p q x=true):hasB p q (powI x z p)=true:=by
 by_cases hq:q=0
 ·subst hq;have hg:=has_coprime hp h;have hx:=has_lt h;have e:=powI_powI z (-1) hp hx hg
  have hu:Nat.gcd (powI x z p) p=1:=by
   have hi:x*invN x p%p=1%p:=invN_spec x p (by omega) hg;unfold powI;rw [Nat.mod_eq_of_lt hx];split
   ·have:invN x p^z.natAbs%p*(x^z.natAbs%p)%p=1%p:=by rw [←Nat.mul_mod];exact unit_pow _ (by rw [Nat.mul_comm];exact hi)
    exact unit_coprime hp this
   ·have:x^z.natAbs%p*(invN x p^z.natAbs%p)%p=1%p:=by rw [←Nat.mul_mod];exact unit_pow _ hi
    exact unit_coprime hp this
  have hl:powI x z p<p:=by unfold powI;split <;> exact Nat.mod_lt _ (by omega)
  unfold hasB;rw [if_pos rfl,decide_eq_true_iff];refine ⟨fun h0=>?_,hl,hu⟩;rw [h0,Nat.gcd_zero_left] at hu;omega
 ·exact has_powI z hp (by omega) h
theorem has_mulq {p q x y:Nat} (hp:2≤p) (hx:hasB p q x=true) (hy:hasB p q y=true):hasB p q (x*y%p)=true:=by
 have hl:x*y%p<p:=Nat.mod_lt _ (by omega);by_cases hq:q=0
 ·subst hq;have h1:x*invN x p%p=1%p:=invN_spec x p (by omega) (has_coprime hp hx);have h2:y*invN y p%p=1%p:=invN_spec y p (by omega) (has_coprime hp hy)
  have h3:x*y%p*(invN x p*invN y p)%p=1%p:=by
   rw [Nat.mod_mul_mod,Nat.mul_mul_mul_comm,Nat.mul_mod,h1,h2,←Nat.mul_mod,Nat.one_mul]
  have hu:=unit_coprime hp h3;unfold hasB;rw [if_pos rfl,decide_eq_true_iff];refine ⟨fun h0=>?_,hl,hu⟩;rw [h0,Nat.gcd_zero_left] at hu;omega
 ·refine hasB_of (by omega) hp hl ?_;rw [←Nat.pow_mod,Nat.mul_pow,Nat.mul_mod,hasB_pow1 (by omega) hx,hasB_pow1 (by omega) hy,←Nat.mul_mod,Nat.one_mul]
def prodK (p:Nat) (L:List Nat) (X:List Int) (k:Nat):Nat:=pw (prs p (L.take k) (X.take k)) 0%p
theorem prodK_one {p x:Nat} {z:Int} {L:List Nat} {X:List Int} (hx:x<p):prodK p (x :: L) (z :: X) 1=powI x z p:=by
 unfold prodK;simp only [List.take_succ_cons,List.take_zero];exact pw1_eq z hx
theorem prodK_step {p k:Nat} {L:List Nat} {X:List Int} (h1:k<L.length) (h2:k<X.length) (hx:L[k]<p):prodK p L X k*powI L[k] X[k] p%p=prodK p L X (k+1):=prodI_step p L X k h1 h2 hx
theorem has_one {p q:Nat} (hp:2≤p):hasB p q 1=true:=by
 unfold hasB;split
 ·rw [decide_eq_true_iff];exact ⟨by decide,by omega,Nat.gcd_one_left p⟩
 ·rw [decide_eq_true_iff];exact ⟨by decide,by omega,by rw [Nat.one_pow]⟩
theorem prodK_has {p q:Nat} {L:List Nat} {X:List Int} (hp:2≤p) (hl:X.length=L.length) (hx:∀x∈L,hasB p q x=true):∀k,k≤L.length→hasB p q (prodK p L X k)=true:=by
 intro k;induction k with
 | zero =>
  intro _
  have:prodK p L X 0=1:=by
   unfold prodK;simp only [List.take_zero,prs,List.zipWith_nil_left,pw];exact Nat.mod_eq_of_lt (by omega)
  rw [this];exact has_one hp
 | succ k ih =>
  intro h;have hk:k<L.length:=by omega
  have hb:=hx _ (List.getElem_mem hk);rw [←prodK_step hk (by omega) (has_lt hb)];exact has_mulq hp (ih (by omega)) (has_powIq _ hp hb)
theorem prodK_end {p k:Nat} {L:List Nat} {X:List Int} (h1:L.length≤k) (h2:X.length≤k):prodK p L X k=pw (prs p L X) 0%p:=by
 unfold prodK;rw [List.take_of_length_le h1,List.take_of_length_le h2]
def msgX (c:Nat) (Z:List Int) (q:NEqn):List Int:=-(c:Int) :: imgX Z q
def msgB (q:NEqn):List Nat:=q.tgt :: imgB q
def msgQ (N:NSta) (c:Nat) (Z:List Int) (q:NEqn):Nat:=pw (prs (N.gp q).1 (msgB q) (msgX c Z q)) 0%(N.gp q).1
def NSta.msgs (N:NSta) (c:Nat) (Z:List Int):List Nat:=N.eqs.map (msgQ N c Z)
theorem msgs_step (N:NSta) (c:Nat) (Z:List Int) (k:Nat) (h:k<N.eqs.length):(N.msgs c Z).take (k+1)=(N.msgs c Z).take k++[msgQ N c Z N.eqs[k]]:=by
 unfold NSta.msgs;rw [←List.map_take,List.take_succ_eq_append_getElem h,List.map_append,List.map_take];rfl
theorem msg_len (c:Nat) (Z:List Int) (q:NEqn):(msgX c Z q).length=(msgB q).length:=by simp [msgX,msgB,imgX,imgB]
theorem msg_stepK {p c k:Nat} {Z:List Int} {q:NEqn} (hk:k<q.trms.length) (hp:2≤p) (hx:q.trms[k].base<p) (hg:Nat.gcd q.trms[k].base p=1) :
  prodK p (msgB q) (msgX c Z q) (k+1)*powI (powI q.trms[k].base q.trms[k].coef p) (Z.getD q.trms[k].var 0) p%p=prodK p (msgB q) (msgX c Z q) (k+2):=by
 have h1:k+1<(msgB q).length:=by simp [msgB,imgB];omega
 have h2:k+1<(msgX c Z q).length:=by simp [msgX,imgX];omega
 have e1:(msgB q)[k+1]=q.trms[k].base:=by simp [msgB,imgB]
 have e2:(msgX c Z q)[k+1]=q.trms[k].coef*Z.getD q.trms[k].var 0:=by simp [msgX,imgX]
 rw [powI_powI _ _ hp hx hg,←e1,←e2];exact prodK_step h1 h2 (by rw [e1];exact hx)
end
section
/- Two bases of a group: products and powers. Plain Lean. -/
theorem can_mod {p a b u v:Nat} (h:u*v%p=1%p) (he:a*u%p=b*u%p):a%p=b%p:=by
 have h1:a*u*v%p=b*u*v%p:=by rw [Nat.mul_mod,he,←Nat.mul_mod]
 rw [Nat.mul_assoc,Nat.mul_assoc,Nat.mul_mod a,Nat.mul_mod b,h,←Nat.mul_mod,←Nat.mul_mod,Nat.mul_one,Nat.mul_one] at h1;exact h1
theorem powI_shift {p x:Nat} (z:Int) (M:Nat) (hp:2≤p) (hx:x<p) (hg:Nat.gcd x p=1) (hM:0≤z+M):powI x z p*x^M%p=x^(z+M).toNat%p:=by
 have hi:x*invN x p%p=1%p:=invN_spec x p (by omega) hg;unfold powI;rw [Nat.mod_eq_of_lt hx];split
 ·rename_i h;obtain ⟨k,hk⟩:∃k,M=z.natAbs+k:=⟨M-z.natAbs,by omega⟩;rw [show (z+M).toNat=k by omega,hk,Nat.pow_add,Nat.mod_mul_mod,←Nat.mul_assoc,Nat.mul_mod,Nat.mul_comm (invN x p^z.natAbs),unit_pow _ hi,←Nat.mul_mod,Nat.one_mul]
 ·rw [Nat.mod_mul_mod,←Nat.pow_add,show z.natAbs+M=(z+M).toNat by omega]
theorem powI_lt {p x:Nat} (z:Int) (hp:2≤p):powI x z p<p:=by unfold powI;split <;> exact Nat.mod_lt _ (by omega)
theorem powI_add {p x:Nat} (a b:Int) (hp:2≤p) (hx:x<p) (hg:Nat.gcd x p=1):powI x a p*powI x b p%p=powI x (a+b) p:=by
 have hi:x*invN x p%p=1%p:=invN_spec x p (by omega) hg;have h1:=powI_shift a a.natAbs hp hx hg (by omega);have h2:=powI_shift b b.natAbs hp hx hg (by omega);have h3:=powI_shift (a+b) (a.natAbs+b.natAbs:Nat) hp hx hg (by omega)
 have h4:powI x a p*powI x b p*x^(a.natAbs+b.natAbs)%p=powI x (a+b) p*x^(a.natAbs+b.natAbs)%p:=by
  rw [h3,Nat.pow_add,Nat.mul_mul_mul_comm,Nat.mul_mod,h1,h2,←Nat.mul_mod,←Nat.pow_add];congr 2
  omega
 have h5:=can_mod (unit_pow (a.natAbs+b.natAbs) hi) h4;rw [h5];exact Nat.mod_eq_of_lt (powI_lt _ hp)
theorem powI_zero (p x:Nat):powI x 0 p=1%p:=by unfold powI;rw [if_neg (by decide)];rfl
theorem powI_one {p x:Nat} (hx:x<p):powI x 1 p=x:=by unfold powI;rw [if_neg (by decide)];show x^1%p=x;rw [Nat.pow_one,Nat.mod_eq_of_lt hx]
theorem powI_base {p x y:Nat} (z:Int) (hp:2≤p) (hx:x<p) (hy:y<p) (hgx:Nat.gcd x p=1) (hgy:Nat.gcd y p=1):powI (x*y%p) z p=powI x z p*powI y z p%p:=by
 have h1:x*invN x p%p=1%p:=invN_spec x p (by omega) hgx;have h2:y*invN y p%p=1%p:=invN_spec y p (by omega) hgy
 have h3:x*y%p*(invN x p*invN y p%p)%p=1%p:=by
  rw [←Nat.mul_mod,Nat.mul_mul_mul_comm,Nat.mul_mod,h1,h2,←Nat.mul_mod,Nat.one_mul]
 have hu:=unit_coprime hp h3;unfold powI;rw [Nat.mod_mod,Nat.mod_eq_of_lt hx,Nat.mod_eq_of_lt hy];split
 ·rw [←inv_eq _ p _ (by omega) hu (Nat.mod_lt _ (by omega)) h3,←Nat.pow_mod,Nat.mul_pow,Nat.mul_mod]
 ·rw [←Nat.pow_mod,Nat.mul_pow,Nat.mul_mod]
structure Two (p g h:Nat):Prop where
 p2:2≤p
 g1:g<p
 h1:h<p
 gg:Nat.gcd g p=1
 gh:Nat.gcd h p=1
theorem prod2 {p x y:Nat} (a b:Int) (hp:2≤p) (hx:x<p) (hy:y<p):pw (prs p [x,y] [a,b]) 0%p=powI x a p*powI y b p%p:=by
 have h:=prodK_step (p:=p) (k:=1) (L:=[x,y]) (X:=[a,b]) (by simp) (by simp) hy;rw [prodK_one hx,prodK_end (by simp) (by simp)] at h;exact h.symm
theorem cmt_eq {p g h:Nat} (t:Two p g h) (a b:Int):cmtN p g h a b=powI g a p*powI h b p%p:=prod2 a b t.p2 t.g1 t.h1
theorem cmt_mul {p g h:Nat} (t:Two p g h) (a b c d:Int):cmtN p g h a b*cmtN p g h c d%p=cmtN p g h (a+c) (b+d):=by
 rw [cmt_eq t,cmt_eq t,cmt_eq t,←Nat.mul_mod,Nat.mul_mul_mul_comm,Nat.mul_mod,powI_add a c t.p2 t.g1 t.gg,powI_add b d t.p2 t.h1 t.gh]
theorem cmt_pow {p g h:Nat} (t:Two p g h) (a b z:Int):powI (cmtN p g h a b) z p=cmtN p g h (a*z) (b*z):=by
 have hg1:Nat.gcd (powI g a p) p=1:=has_coprime (q:=0) t.p2 (has_powIq a t.p2 (by unfold hasB;rw [if_pos rfl,decide_eq_true_iff];exact ⟨fun e=>by have:=t.gg;rw [e,Nat.gcd_zero_left] at this;have:=t.p2;omega,t.g1,t.gg⟩));have hh1:Nat.gcd (powI h b p) p=1:=has_coprime (q:=0) t.p2 (has_powIq b t.p2 (by unfold hasB;rw [if_pos rfl,decide_eq_true_iff];exact ⟨fun e=>by have:=t.gh;rw [e,Nat.gcd_zero_left] at this;have:=t.p2;omega,t.h1,t.gh⟩));rw [cmt_eq t,cmt_eq t,powI_base z t.p2 (powI_lt a t.p2) (powI_lt b t.p2) hg1 hh1,powI_powI a z t.p2 t.g1 t.gg,powI_powI b z t.p2 t.h1 t.gh]
theorem cmt_lt {p g h:Nat} (t:Two p g h) (a b:Int):cmtN p g h a b<p:=by rw [cmt_eq t];exact Nat.mod_lt _ (by have:=t.p2;omega)
theorem cmt_g {p g h:Nat} (t:Two p g h) (a:Int):powI g a p=cmtN p g h a 0:=by
 rw [cmt_eq t,powI_zero,←Nat.mul_mod_mod,Nat.mod_mod,Nat.mul_mod_mod,Nat.mul_one,Nat.mod_eq_of_lt (powI_lt a t.p2)]
theorem cmt_h {p g h:Nat} (t:Two p g h) (b:Int):powI h b p=cmtN p g h 0 b:=by
 rw [cmt_eq t,powI_zero,Nat.mod_mul_mod,Nat.one_mul,Nat.mod_eq_of_lt (powI_lt b t.p2)]
theorem cmt_has {p g h:Nat} (t:Two p g h) (a b:Int):hasB p 0 (cmtN p g h a b)=true:=by
 have h1:=cmt_mul t a b (-a) (-b);rw [show a+-a=0 by omega,show b+-b=0 by omega] at h1;have h0:cmtN p g h 0 0=1%p:=by rw [←cmt_g t,powI_zero]
 rw [h0] at h1;have hu:=unit_coprime t.p2 h1;unfold hasB;rw [if_pos rfl,decide_eq_true_iff];exact ⟨fun e=>by rw [e,Nat.gcd_zero_left] at hu;have:=t.p2;omega,cmt_lt t a b,hu⟩
theorem cmt_inj {p g h:Nat} (t:Two p g h) (a b c d:Int) (he:cmtN p g h a b=cmtN p g h c d):cmtN p g h (a-c) (b-d)=1:=by
 have h1:cmtN p g h a b*cmtN p g h (-c) (-d)%p=cmtN p g h c d*cmtN p g h (-c) (-d)%p:=by rw [he]
 rw [cmt_mul t,cmt_mul t,show c+-c=0 by omega,show d+-d=0 by omega] at h1;rw [show a-c=a+-c by omega,show b-d=b+-d by omega,h1,←cmt_g t,powI_zero,Nat.mod_eq_of_lt (by have:=t.p2;omega)]
end
section
def t1 (b v:Nat):NTrm:=⟨b,v,1⟩
def eqK (g h:Nat) (P:List Nat) (j:Nat):NEqn:=⟨0,P.getD j 0,[t1 g (2*j),t1 h (2*j+1)]⟩
def stQ (g h:Nat) (P:List Nat) (k:Nat):List NEqn:=(List.range k).map (eqK g h P)
def stT (P:List Nat) (k:Nat):List NTrm:=(List.range k).map fun j=>t1 (P.getD j 0) (2*j)
def stV (vb rb k:Nat):List Nat:=(List.range k).flatMap fun _=>[vb,rb]
def lastB (vb rb:Nat):Nat:=(4*vb+1)*rb
def stL (h tgt:Nat) (P:List Nat):NEqn:=⟨0,tgt,stT P 4++[t1 h 8]⟩
def stN (p g h:Nat) (lo:Int) (c:Nat) (P:List Nat) (vb rb:Nat):NSta:=
 ⟨[(p,0)],stV vb rb 4++[lastB vb rb],stQ g h P 4++[stL h (shiftN p c g (-lo)) P]⟩
theorem stQ_snoc (g h:Nat) (P:List Nat) (k:Nat):stQ g h P (k+1)=stQ g h P k++[eqK g h P k]:=by unfold stQ;rw [List.range_succ,List.map_append];rfl
theorem stT_snoc (P:List Nat) (k:Nat):stT P (k+1)=stT P k++[t1 (P.getD k 0) (2*k)]:=by unfold stT;rw [List.range_succ,List.map_append];rfl
theorem stV_snoc (vb rb k:Nat):stV vb rb (k+1)=stV vb rb k++[vb,rb]:=by unfold stV;rw [List.range_succ,List.flatMap_append];rfl
theorem ped_two {p g h:Nat} (he:pedE p 0 g h=0):Two p g h∧g≠1∧grpE p 0=0∧hasB p 0 g=true∧hasB p 0 h=true:=by
 have hg:=pedE_grp he;unfold pedE at he;rw [if_pos hg] at he;split at he
 ·rename_i hh
  have hp:2≤p:=by
   unfold grpE at hg;rw [if_pos rfl] at hg;split at hg
   ·omega
   ·omega
  exact ⟨⟨hp,has_lt hh.1,has_lt hh.2.1,has_coprime hp hh.1,has_coprime hp hh.2.1⟩,hh.2.2.1,hg,hh.1,hh.2.1⟩
 ·omega
theorem shift_has {p c g:Nat} (z:Int) (hp:2≤p) (hc:hasB p 0 c=true) (hg:hasB p 0 g=true):hasB p 0 (shiftN p c g z)=true:=by
 have e:shiftN p c g z=powI c 1 p*powI g z p%p:=prod2 1 z hp (has_lt hc) (has_lt hg);rw [e];exact has_mulq hp (has_powIq 1 hp hc) (has_powIq z hp hg)
theorem stN_ok {p g h c vb rb:Nat} {lo:Int} {P:List Nat} (hp:p<256^8) (he:pedE p 0 g h=0) (hc:hasB p 0 c=true) (hl:P.length=4) (hP:∀x∈P,hasB p 0 x=true) (hv:vb<256^12) (hr:rb<256^12):NOk (stN p g h lo c P vb rb):=by
 obtain ⟨t,_,_,hg,hh⟩:=ped_two he;match P,hl with
 | [a,b,c',d],_ =>
  have q:=fun x hx=>Nat.lt_trans (has_lt (hP x hx)) hp
  have qa:=q a (by simp);have qb:=q b (by simp);have qc:=q c' (by simp);have qd:=q d (by simp);have qg:=Nat.lt_trans t.g1 hp;have qh:=Nat.lt_trans t.h1 hp;have qs:shiftN p c g (-lo)<256^8:=Nat.lt_trans (has_lt (shift_has (-lo) t.p2 hc hg)) hp;have up:∀{n:Nat},n<256^8→n<256^16:=fun h=>Nat.lt_of_lt_of_le h (by decide)
  have lb:lastB vb rb<256^32:=by
   unfold lastB
   have h1:4*vb+1≤256^13:=by
                      have:(256:Nat)^13=256*256^12:=by decide
                      omega
   have h2:=Nat.mul_le_mul h1 (Nat.le_of_lt hr);exact Nat.lt_of_le_of_lt h2 (by decide)
  refine ⟨(by decide:1≤10),(by decide:9≤12),(by decide:5≤12),?_,?_,?_⟩
  ·intro x hx;simp only [stN,List.mem_singleton] at hx;subst hx;exact ⟨hp,(by decide:(0:Nat)<256^8)⟩
  ·intro x hx;have hx:x∈[vb,rb,vb,rb,vb,rb,vb,rb,lastB vb rb]:=hx;simp only [List.mem_cons,List.not_mem_nil,or_false] at hx;have h12:∀{n:Nat},n<256^12→n<256^32:=fun h=>Nat.lt_of_lt_of_le h (by decide)
   rcases hx with rfl | rfl | rfl | rfl | rfl | rfl | rfl | rfl | rfl <;> first | exact h12 hv | exact h12 hr | exact lb
  ·intro y hy;have hy:y∈[(⟨0,a,[t1 g 0,t1 h 1]⟩:NEqn),⟨0,b,[t1 g 2,t1 h 3]⟩,⟨0,c',[t1 g 4,t1 h 5]⟩,⟨0,d,[t1 g 6,t1 h 7]⟩,⟨0,shiftN p c g (-lo),[t1 a 0,t1 b 2,t1 c' 4,t1 d 6,t1 h 8]⟩]:=hy;simp only [List.mem_cons,List.not_mem_nil,or_false] at hy;have ht:∀{b v:Nat},b<256^8→v<9→(t1 b v).base<256^16∧(t1 b v).var<(stN p g h lo c [a,b,c',d] vb rb).vars.length∧(t1 b v).coef.natAbs<256^16:=fun h1 h2=>⟨up h1,h2,by show (1:Int).natAbs<256^16;decide⟩
   rcases hy with rfl | rfl | rfl | rfl | rfl
   ·refine ⟨(by decide:0<1),up qa,(by decide:2≤12),fun z hz=>?_⟩;simp only [List.mem_cons,List.not_mem_nil,or_false] at hz;rcases hz with rfl | rfl
    ·exact ht qg (by decide)
    ·exact ht qh (by decide)
   ·refine ⟨(by decide:0<1),up qb,(by decide:2≤12),fun z hz=>?_⟩;simp only [List.mem_cons,List.not_mem_nil,or_false] at hz;rcases hz with rfl | rfl
    ·exact ht qg (by decide)
    ·exact ht qh (by decide)
   ·refine ⟨(by decide:0<1),up qc,(by decide:2≤12),fun z hz=>?_⟩;simp only [List.mem_cons,List.not_mem_nil,or_false] at hz;rcases hz with rfl | rfl
    ·exact ht qg (by decide)
    ·exact ht qh (by decide)
   ·refine ⟨(by decide:0<1),up qd,(by decide:2≤12),fun z hz=>?_⟩;simp only [List.mem_cons,List.not_mem_nil,or_false] at hz;rcases hz with rfl | rfl
    ·exact ht qg (by decide)
    ·exact ht qh (by decide)
   ·refine ⟨(by decide:0<1),up qs,(by decide:5≤12),fun z hz=>?_⟩;simp only [List.mem_cons,List.not_mem_nil,or_false] at hz;rcases hz with rfl | rfl | rfl | rfl | rfl
    ·exact ht qa (by decide)
    ·exact ht qb (by decide)
    ·exact ht qc (by decide)
    ·exact ht qd (by decide)
    ·exact ht qh (by decide)
theorem stN_chk {p g h c vb rb:Nat} {lo:Int} {P:List Nat} (he:pedE p 0 g h=0) (hc:hasB p 0 c=true) (hl:P.length=4) (hP:∀x∈P,hasB p 0 x=true) (hv:vb≠0) (hr:rb≠0):(stN p g h lo c P vb rb).chk=0:=by
 obtain ⟨t,_,hgr,hg,hh⟩:=ped_two he;match P,hl with
 | [a,b,c',d],_ =>
  have qa:=hP a (by simp);have qb:=hP b (by simp);have qc:=hP c' (by simp);have qd:=hP d (by simp);have qs:=shift_has (-lo) t.p2 hc hg;have hlb:lastB vb rb≠0:=Nat.mul_ne_zero (by omega) hr
  have e1:(stN p g h lo c [a,b,c',d] vb rb).elem=true:=by
   show ((([(p,0)]:List (Nat × Nat)).all gr0)&&([(⟨0,a,[t1 g 0,t1 h 1]⟩:NEqn),⟨0,b,[t1 g 2,t1 h 3]⟩,⟨0,c',[t1 g 4,t1 h 5]⟩,⟨0,d,[t1 g 6,t1 h 7]⟩,⟨0,shiftN p c g (-lo),[t1 a 0,t1 b 2,t1 c' 4,t1 d 6,t1 h 8]⟩].all (elemQ (stN p g h lo c [a,b,c',d] vb rb))))=true;have hgp:∀q:NEqn,q.grp=0→(stN p g h lo c [a,b,c',d] vb rb).gp q=(p,0):=fun q hq=>by unfold NSta.gp;rw [hq];rfl
   simp only [List.all_cons,List.all_nil,Bool.and_true,gr0,hgr,elemQ,hgp,hasQ,t1,qa,qb,qc,qd,qs,hg,hh,beq_self_eq_true]
  have e2:(stN p g h lo c [a,b,c',d] vb rb).typ=true:=by
   refine typ_vars _ ?_;show [vb,rb,vb,rb,vb,rb,vb,rb,lastB vb rb].any vz=false;simp [vz,hv,hr,hlb]
  exact chk_0 (by show ¬ 8<1;decide) e1 e2
end
end Go.Proofs.YtfgandecbkbleaaGreatDoor
