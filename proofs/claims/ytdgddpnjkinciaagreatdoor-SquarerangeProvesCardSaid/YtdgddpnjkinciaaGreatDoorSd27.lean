/- What Statement returns: error,statement. -/
import Derived.Deep.RegionHeld3
import Derived.Deep.RegionLaw
import Derived.Deep.AppendLies
import Derived.RangeFuncLeaves
import Derived.Shelf.Abstract
import Derived.Test.YtdgddpnjkinciaaGreatDoorWt27
set_option linter.all false
set_option maxRecDepth 100000
set_option maxHeartbeats 16000000
namespace Go.Proofs.YtdgddpnjkinciaaGreatDoor
section
open Go.RowKit
end
section
open Go.RowKit
end
section
open Go.RowKit
end
section
open Go.RowKit
end
section
open Go.RowKit
end
section
/- A call of a Go function at a step of a region that draws its order,by the callee's contract. -/
open Go.RowKit Go.Shelf
end
section
/- Powers of powers in a group,for exponents of either sign. Plain Lean. -/
theorem pow_one_of (y q k p:Nat) (h:y^q%p=1%p):(y^k%p)^q%p=1%p:=by
 rw[←Nat.pow_mod,←Nat.pow_mul,Nat.mul_comm,Nat.pow_mul,Nat.pow_mod,h,←Nat.pow_mod,Nat.one_pow]
theorem inv_pow_one (b y q p:Nat) (hb:b^q%p=1%p) (hy:b*y%p=1%p):y^q%p=1%p:=by
 have h1:(b*y)^q%p=1%p:=by rw[Nat.pow_mod,hy,←Nat.pow_mod,Nat.one_pow]
 rw[Nat.mul_pow,Nat.mul_mod,hb,←Nat.mul_mod,Nat.one_mul]at h1;exact h1
theorem hasB_of {p q x:Nat} (hq:0<q) (hp:2≤p) (hx:x<p) (h:x^q%p=1%p):hasB p q x=true:=by
 unfold hasB;rw[if_neg (by omega),decide_eq_true_iff];refine⟨?_,hx,h⟩;rintro rfl;rw[Nat.zero_pow hq,Nat.zero_mod,Nat.mod_eq_of_lt (show 1<p by omega)]at h;omega
theorem hasB_pow1 {p q x:Nat} (hq:0<q) (h:hasB p q x=true):x^q%p=1%p:=by
 unfold hasB at h;rw[if_neg (by omega),decide_eq_true_iff]at h;exact h.2.2
theorem has_powI {p q x:Nat} (z:Int) (hp:2≤p) (hq:0<q) (h:hasB p q x=true):hasB p q (powI x z p)=true:=by
 have h1:=hasB_pow1 hq h;have hlt:=has_lt h;unfold powI;split
 ·refine hasB_of hq hp (Nat.mod_lt _ (by omega)) (pow_one_of _ _ _ _ ?_);rw[Nat.mod_eq_of_lt hlt];exact inv_pow_one x _ q p h1 (invN_spec x p (by omega) (has_coprime hp h))
 ·exact hasB_of hq hp (Nat.mod_lt _ (by omega)) (pow_one_of _ _ _ _ h1)
theorem unit_pow {u v p:Nat} (k:Nat) (h:u*v%p=1%p):u^k*v^k%p=1%p:=by
 rw[←Nat.mul_pow,Nat.pow_mod,h,←Nat.pow_mod,Nat.one_pow]
theorem unit_coprime {u v p:Nat} (hp:2≤p) (h:u*v%p=1%p):Nat.gcd u p=1:=by
 have h2:Nat.gcd u p∣u*v%p:=(Nat.dvd_mod_iff (Nat.gcd_dvd_right u p)).2 (Nat.dvd_trans (Nat.gcd_dvd_left u p) (Nat.dvd_mul_right _ _));rw[h,Nat.mod_eq_of_lt (by omega)]at h2;exact Nat.dvd_one.1 h2
theorem inv_pow {u v p:Nat} (k:Nat) (hp:2≤p) (h:u*v%p=1%p):invN (u^k%p%p) p=v^k%p:=by
 have h1:u^k%p%p*(v^k%p)%p=1%p:=by rw[Nat.mod_mod,←Nat.mul_mod];exact unit_pow k h
 exact (inv_eq _ p _ (by omega) (unit_coprime hp h1) (Nat.mod_lt _ (by omega)) h1).symm
theorem pow_pow_mod (u a b p:Nat):(u^a%p)^b%p=u^(a*b)%p:=by
 rw[←Nat.pow_mod,Nat.pow_mul]
theorem powI_powI {p x:Nat} (a b:Int) (hp:2≤p) (hx:x<p) (hg:Nat.gcd x p=1):powI (powI x a p) b p=powI x (a*b) p:=by
 have hi:x*invN x p%p=1%p:=invN_spec x p (by omega) hg;have hd:invN x p*x%p=1%p:=by rw[Nat.mul_comm];exact hi
 have e0:x%p=x:=Nat.mod_eq_of_lt hx;have en:(a*b).natAbs=a.natAbs*b.natAbs:=Int.natAbs_mul a b;by_cases ha:a<0
 ·by_cases hb:b<0
  ·have hc:¬ a*b<0:=by have:=Int.mul_pos_of_neg_of_neg ha hb;omega
   unfold powI;rw[if_pos ha,if_pos hb,if_neg hc,e0,inv_pow _ hp hd,pow_pow_mod,en]
  ·by_cases he:b=0
   ·subst he;rw[Int.mul_zero];unfold powI;simp
   ·have hc:a*b<0:=Int.mul_neg_of_neg_of_pos ha (by omega);unfold powI;rw[if_pos ha,if_neg hb,if_pos hc,e0,pow_pow_mod,en]
 ·by_cases hb:b<0
  ·by_cases hf:a=0
   ·subst hf
    have h1:invN (1%p) p=1%p:=by
     have:=inv_pow (u:=x) 0 hp hi;simpa using this
    rw[Int.zero_mul];have e1:powI x 0 p=1%p:=by unfold powI;rw[if_neg (by decide)];rfl
    rw[e1];unfold powI;rw[if_pos hb,Nat.mod_mod,h1,←Nat.pow_mod,Nat.one_pow]
   ·have hc:a*b<0:=Int.mul_neg_of_pos_of_neg (by omega) hb;unfold powI;rw[if_neg ha,if_pos hb,if_pos hc,e0,inv_pow _ hp hi,pow_pow_mod,en]
  ·have hc:¬ a*b<0:=by have:=Int.mul_nonneg (show 0≤a by omega) (show 0≤b by omega);omega
   unfold powI;rw[if_neg ha,if_neg hb,if_neg hc,pow_pow_mod,en]
theorem has_powIq {p q x:Nat} (z:Int) (hp:2≤p) (h:hasB p q x=true):hasB p q (powI x z p)=true:=by
 by_cases hq:q=0
 ·subst hq;have hg:=has_coprime hp h;have hx:=has_lt h;have e:=powI_powI z (-1) hp hx hg
  have hu:Nat.gcd (powI x z p) p=1:=by
   have hi:x*invN x p%p=1%p:=invN_spec x p (by omega) hg;unfold powI;rw[Nat.mod_eq_of_lt hx];split
   ·have:invN x p^z.natAbs%p*(x^z.natAbs%p)%p=1%p:=by rw[←Nat.mul_mod];exact unit_pow _ (by rw[Nat.mul_comm];exact hi)
    exact unit_coprime hp this
   ·have:x^z.natAbs%p*(invN x p^z.natAbs%p)%p=1%p:=by rw[←Nat.mul_mod];exact unit_pow _ hi
    exact unit_coprime hp this
  have hl:powI x z p<p:=by unfold powI;split <;> exact Nat.mod_lt _ (by omega)
  unfold hasB;rw[if_pos rfl,decide_eq_true_iff];refine⟨fun h0=>?_,hl,hu⟩;rw[h0,Nat.gcd_zero_left]at hu;omega
 ·exact has_powI z hp (by omega) h
theorem has_mulq {p q x y:Nat} (hp:2≤p) (hx:hasB p q x=true) (hy:hasB p q y=true):hasB p q (x*y%p)=true:=by
 have hl:x*y%p<p:=Nat.mod_lt _ (by omega);by_cases hq:q=0
 ·subst hq;have h1:x*invN x p%p=1%p:=invN_spec x p (by omega) (has_coprime hp hx);have h2:y*invN y p%p=1%p:=invN_spec y p (by omega) (has_coprime hp hy)
  have h3:x*y%p*(invN x p*invN y p)%p=1%p:=by
   rw[Nat.mod_mul_mod,Nat.mul_mul_mul_comm,Nat.mul_mod,h1,h2,←Nat.mul_mod,Nat.one_mul]
  have hu:=unit_coprime hp h3;unfold hasB;rw[if_pos rfl,decide_eq_true_iff];refine⟨fun h0=>?_,hl,hu⟩;rw[h0,Nat.gcd_zero_left]at hu;omega
 ·refine hasB_of (by omega) hp hl ?_;rw[←Nat.pow_mod,Nat.mul_pow,Nat.mul_mod,hasB_pow1 (by omega) hx,hasB_pow1 (by omega) hy,←Nat.mul_mod,Nat.one_mul]
def prodK (p:Nat) (L:List Nat) (X:List Int) (k:Nat):Nat:=pw (prs p (L.take k) (X.take k)) 0%p
theorem prodK_one {p x:Nat} {z:Int} {L:List Nat} {X:List Int} (hx:x<p):prodK p (x :: L) (z :: X) 1=powI x z p:=by
 unfold prodK;simp only[List.take_succ_cons,List.take_zero];exact pw1_eq z hx
theorem prodK_step {p k:Nat} {L:List Nat} {X:List Int} (h1:k<L.length) (h2:k<X.length) (hx:L[k]<p):prodK p L X k*powI L[k] X[k] p%p=prodK p L X (k+1):=prodI_step p L X k h1 h2 hx
theorem has_one {p q:Nat} (hp:2≤p):hasB p q 1=true:=by
 unfold hasB;split
 ·rw[decide_eq_true_iff];exact⟨by decide,by omega,Nat.gcd_one_left p⟩
 ·rw[decide_eq_true_iff];exact⟨by decide,by omega,by rw[Nat.one_pow]⟩
theorem prodK_has {p q:Nat} {L:List Nat} {X:List Int} (hp:2≤p) (hl:X.length=L.length) (hx:∀x∈L,hasB p q x=true):∀k,k≤L.length→hasB p q (prodK p L X k)=true:=by
 intro k;induction k with
 | zero =>
  intro _
  have:prodK p L X 0=1:=by
   unfold prodK;simp only[List.take_zero,prs,List.zipWith_nil_left,pw];exact Nat.mod_eq_of_lt (by omega)
  rw[this];exact has_one hp
 | succ k ih =>
  intro h;have hk:k<L.length:=by omega
  have hb:=hx _ (Gm hk);rw[←prodK_step hk (by omega) (has_lt hb)];exact has_mulq hp (ih (by omega)) (has_powIq _ hp hb)
theorem prodK_end {p k:Nat} {L:List Nat} {X:List Int} (h1:L.length≤k) (h2:X.length≤k):prodK p L X k=pw (prs p L X) 0%p:=by
 unfold prodK;rw[List.take_of_length_le h1,List.take_of_length_le h2]
end
section
/- Two bases of a group: products and powers. Plain Lean. -/
theorem can_mod {p a b u v:Nat} (h:u*v%p=1%p) (he:a*u%p=b*u%p):a%p=b%p:=by
 have h1:a*u*v%p=b*u*v%p:=by rw[Nat.mul_mod,he,←Nat.mul_mod]
 rw[Nat.mul_assoc,Nat.mul_assoc,Nat.mul_mod a,Nat.mul_mod b,h,←Nat.mul_mod,←Nat.mul_mod,Nat.mul_one,Nat.mul_one]at h1;exact h1
theorem powI_shift {p x:Nat} (z:Int) (M:Nat) (hp:2≤p) (hx:x<p) (hg:Nat.gcd x p=1) (hM:0≤z+M):powI x z p*x^M%p=x^(z+M).toNat%p:=by
 have hi:x*invN x p%p=1%p:=invN_spec x p (by omega) hg;unfold powI;rw[Nat.mod_eq_of_lt hx];split
 ·rename_i h;obtain⟨k,hk⟩:∃k,M=z.natAbs+k:=⟨M-z.natAbs,by omega⟩;rw[show (z+M).toNat=k by omega,hk,Nat.pow_add,Nat.mod_mul_mod,←Nat.mul_assoc,Nat.mul_mod,Nat.mul_comm (invN x p^z.natAbs),unit_pow _ hi,←Nat.mul_mod,Nat.one_mul]
 ·rw[Nat.mod_mul_mod,←Nat.pow_add,show z.natAbs+M=(z+M).toNat by omega]
theorem powI_lt {p x:Nat} (z:Int) (hp:2≤p):powI x z p<p:=by unfold powI;split <;> exact Nat.mod_lt _ (by omega)
theorem powI_add {p x:Nat} (a b:Int) (hp:2≤p) (hx:x<p) (hg:Nat.gcd x p=1):powI x a p*powI x b p%p=powI x (a+b) p:=by
 have hi:x*invN x p%p=1%p:=invN_spec x p (by omega) hg;have h1:=powI_shift a a.natAbs hp hx hg (by omega);have h2:=powI_shift b b.natAbs hp hx hg (by omega);have h3:=powI_shift (a+b) (a.natAbs+b.natAbs:Nat) hp hx hg (by omega)
 have h4:powI x a p*powI x b p*x^(a.natAbs+b.natAbs)%p=powI x (a+b) p*x^(a.natAbs+b.natAbs)%p:=by
  rw[h3,Nat.pow_add,Nat.mul_mul_mul_comm,Nat.mul_mod,h1,h2,←Nat.mul_mod,←Nat.pow_add];congr 2
  omega
 have h5:=can_mod (unit_pow (a.natAbs+b.natAbs) hi) h4;rw[h5];exact Nat.mod_eq_of_lt (powI_lt _ hp)
theorem powI_zero (p x:Nat):powI x 0 p=1%p:=by unfold powI;rw[if_neg (by decide)];rfl
structure Two (p g h:Nat):Prop where
 p2:2≤p
 g1:g<p
 h1:h<p
 gg:Nat.gcd g p=1
 gh:Nat.gcd h p=1
theorem prod2 {p x y:Nat} (a b:Int) (hp:2≤p) (hx:x<p) (hy:y<p):pw (prs p [x,y] [a,b]) 0%p=powI x a p*powI y b p%p:=by
 have h:=prodK_step (p:=p) (k:=1) (L:=[x,y]) (X:=[a,b]) (by simp) (by simp) hy;rw[prodK_one hx,prodK_end (by simp) (by simp)]at h;exact h.symm
theorem cmt_eq {p g h:Nat} (t:Two p g h) (a b:Int):cmtN p g h a b=powI g a p*powI h b p%p:=prod2 a b t.p2 t.g1 t.h1
theorem cmt_mul {p g h:Nat} (t:Two p g h) (a b c d:Int):cmtN p g h a b*cmtN p g h c d%p=cmtN p g h (a+c) (b+d):=by
 rw[cmt_eq t,cmt_eq t,cmt_eq t,←Nat.mul_mod,Nat.mul_mul_mul_comm,Nat.mul_mod,powI_add a c t.p2 t.g1 t.gg,powI_add b d t.p2 t.h1 t.gh]
theorem cmt_lt {p g h:Nat} (t:Two p g h) (a b:Int):cmtN p g h a b<p:=by rw[cmt_eq t];exact Nat.mod_lt _ (by have:=t.p2;omega)
theorem cmt_g {p g h:Nat} (t:Two p g h) (a:Int):powI g a p=cmtN p g h a 0:=by
 rw[cmt_eq t,powI_zero,←Nat.mul_mod_mod,Nat.mod_mod,Nat.mul_mod_mod,Nat.mul_one,Nat.mod_eq_of_lt (powI_lt a t.p2)]
theorem cmt_has {p g h:Nat} (t:Two p g h) (a b:Int):hasB p 0 (cmtN p g h a b)=true:=by
 have h1:=cmt_mul t a b (-a) (-b);rw[show a+-a=0 by omega,show b+-b=0 by omega]at h1;have h0:cmtN p g h 0 0=1%p:=by rw[←cmt_g t,powI_zero]
 rw[h0]at h1;have hu:=unit_coprime t.p2 h1;unfold hasB;rw[if_pos rfl,decide_eq_true_iff];exact⟨fun e=>by rw[e,Nat.gcd_zero_left]at hu;have:=t.p2;omega,cmt_lt t a b,hu⟩
end
section
/- The statement for a lower bound: its form,its limits. Plain Lean. -/
def t1 (b v:Nat):NTrm:=⟨b,v,1⟩
def eqK (g h:Nat) (P:List Nat) (j:Nat):NEqn:=⟨0,P.getD j 0,[t1 g (2*j),t1 h (2*j+1)]⟩
def stQ (g h:Nat) (P:List Nat) (k:Nat):List NEqn:=(List.range k).map (eqK g h P)
def stT (P:List Nat) (k:Nat):List NTrm:=(List.range k).map fun j=>t1 (P.getD j 0) (2*j)
def stV (vb rb k:Nat):List Nat:=(List.range k).flatMap fun _=>[vb,rb]
def lastB (vb rb:Nat):Nat:=(4*vb+1)*rb
def stL (h tgt:Nat) (P:List Nat):NEqn:=⟨0,tgt,stT P 4++[t1 h 8]⟩
def stN (p g h:Nat) (lo:Int) (c:Nat) (P:List Nat) (vb rb:Nat):NSta:=
 ⟨[(p,0)],stV vb rb 4++[lastB vb rb],stQ g h P 4++[stL h (shiftN p c g (-lo)) P]⟩
theorem stQ_snoc (g h:Nat) (P:List Nat) (k:Nat):stQ g h P (k+1)=stQ g h P k++[eqK g h P k]:=by unfold stQ;rw[List.range_succ,List.map_append];rfl
theorem stT_snoc (P:List Nat) (k:Nat):stT P (k+1)=stT P k++[t1 (P.getD k 0) (2*k)]:=by unfold stT;rw[List.range_succ,List.map_append];rfl
theorem stV_snoc (vb rb k:Nat):stV vb rb (k+1)=stV vb rb k++[vb,rb]:=by unfold stV;rw[List.range_succ,List.flatMap_append];rfl
theorem ped_two {p g h:Nat} (he:pedE p 0 g h=0):Two p g h∧g≠1∧grpE p 0=0∧hasB p 0 g=true∧hasB p 0 h=true:=by
 have hg:=pedE_grp he;unfold pedE at he;rw[if_pos hg]at he;split at he
 ·rename_i hh
  have hp:2≤p:=by
   unfold grpE at hg;rw[if_pos rfl]at hg;split at hg
   ·omega
   ·omega
  exact⟨⟨hp,has_lt hh.1,has_lt hh.2.1,has_coprime hp hh.1,has_coprime hp hh.2.1⟩,hh.2.2.1,hg,hh.1,hh.2.1⟩
 ·omega
theorem shift_has {p c g:Nat} (z:Int) (hp:2≤p) (hc:hasB p 0 c=true) (hg:hasB p 0 g=true):hasB p 0 (shiftN p c g z)=true:=by
 have e:shiftN p c g z=powI c 1 p*powI g z p%p:=prod2 1 z hp (has_lt hc) (has_lt hg);rw[e];exact has_mulq hp (has_powIq 1 hp hc) (has_powIq z hp hg)
theorem stN_ok {p g h c vb rb:Nat} {lo:Int} {P:List Nat} (hp:p<256^8) (he:pedE p 0 g h=0) (hc:hasB p 0 c=true) (hl:P.length=4) (hP:∀x∈P,hasB p 0 x=true) (hv:vb<256^12) (hr:rb<256^12):NOk (stN p g h lo c P vb rb):=by
 obtain⟨t,_,_,hg,hh⟩:=ped_two he;match P,hl with
 | [a,b,c',d],_ =>
  have q:=fun x hx=>Nat.lt_trans (has_lt (hP x hx)) hp
  have qa:=q a (by simp);have qb:=q b (by simp);have qc:=q c' (by simp);have qd:=q d (by simp);have qg:=Nat.lt_trans t.g1 hp;have qh:=Nat.lt_trans t.h1 hp;have qs:shiftN p c g (-lo)<256^8:=Nat.lt_trans (has_lt (shift_has (-lo) t.p2 hc hg)) hp;have up:∀{n:Nat},n<256^8→n<256^16:=fun h=>Nl h (by decide)
  have lb:lastB vb rb<256^26:=by
   unfold lastB
   have h1:4*vb+1≤256^13:=by
                      have:(256:Nat)^13=256*256^12:=by decide
                      omega
   have h2:=Nat.mul_le_mul h1 (Nat.le_of_lt hr);exact Nat.lt_of_le_of_lt h2 (by decide)
  refine⟨(by decide:1≤10),(by decide:9≤12),(by decide:5≤12),?_,?_,?_⟩
  ·intro x hx;simp only[stN,List.mem_singleton]at hx;subst hx;exact⟨hp,(by decide:(0:Nat)<256^8)⟩
  ·intro x hx;have hx:x∈[vb,rb,vb,rb,vb,rb,vb,rb,lastB vb rb]:=hx;simp only[List.mem_cons,List.not_mem_nil,or_false]at hx;have hb:∀{n:Nat},n<256^12→n<256^26:=fun h=>Nl h (by decide)
   rcases hx with rfl | rfl | rfl | rfl | rfl | rfl | rfl | rfl | rfl <;> first | exact hb hv | exact hb hr | exact lb
  ·intro y hy;have hy:y∈[(⟨0,a,[t1 g 0,t1 h 1]⟩:NEqn),⟨0,b,[t1 g 2,t1 h 3]⟩,⟨0,c',[t1 g 4,t1 h 5]⟩,⟨0,d,[t1 g 6,t1 h 7]⟩,⟨0,shiftN p c g (-lo),[t1 a 0,t1 b 2,t1 c' 4,t1 d 6,t1 h 8]⟩]:=hy;simp only[List.mem_cons,List.not_mem_nil,or_false]at hy;have ht:∀{b v:Nat},b<256^8→v<9→(t1 b v).base<256^16∧(t1 b v).var<(stN p g h lo c [a,b,c',d] vb rb).vars.length∧(t1 b v).coef.natAbs<256^16:=fun h1 h2=>⟨up h1,h2,by show (1:Int).natAbs<256^16;decide⟩
   rcases hy with rfl | rfl | rfl | rfl | rfl
   ·refine⟨(by decide:0<1),up qa,(by decide:2≤12),fun z hz=>?_⟩;simp only[List.mem_cons,List.not_mem_nil,or_false]at hz;rcases hz with rfl | rfl
    ·exact ht qg (by decide)
    ·exact ht qh (by decide)
   ·refine⟨(by decide:0<1),up qb,(by decide:2≤12),fun z hz=>?_⟩;simp only[List.mem_cons,List.not_mem_nil,or_false]at hz;rcases hz with rfl | rfl
    ·exact ht qg (by decide)
    ·exact ht qh (by decide)
   ·refine⟨(by decide:0<1),up qc,(by decide:2≤12),fun z hz=>?_⟩;simp only[List.mem_cons,List.not_mem_nil,or_false]at hz;rcases hz with rfl | rfl
    ·exact ht qg (by decide)
    ·exact ht qh (by decide)
   ·refine⟨(by decide:0<1),up qd,(by decide:2≤12),fun z hz=>?_⟩;simp only[List.mem_cons,List.not_mem_nil,or_false]at hz;rcases hz with rfl | rfl
    ·exact ht qg (by decide)
    ·exact ht qh (by decide)
   ·refine⟨(by decide:0<1),up qs,(by decide:5≤12),fun z hz=>?_⟩;simp only[List.mem_cons,List.not_mem_nil,or_false]at hz;rcases hz with rfl | rfl | rfl | rfl | rfl
    ·exact ht qa (by decide)
    ·exact ht qb (by decide)
    ·exact ht qc (by decide)
    ·exact ht qd (by decide)
    ·exact ht qh (by decide)
theorem stN_chk {p g h c vb rb:Nat} {lo:Int} {P:List Nat} (he:pedE p 0 g h=0) (hc:hasB p 0 c=true) (hl:P.length=4) (hP:∀x∈P,hasB p 0 x=true) (hv:vb≠0) (hr:rb≠0):(stN p g h lo c P vb rb).chk=0:=by
 obtain⟨t,_,hb,hg,hh⟩:=ped_two he;match P,hl with
 | [a,b,c',d],_ =>
  have qa:=hP a (by simp);have qb:=hP b (by simp);have qc:=hP c' (by simp);have qd:=hP d (by simp);have qs:=shift_has (-lo) t.p2 hc hg;have hd:lastB vb rb≠0:=Nat.mul_ne_zero (by omega) hr
  have e1:(stN p g h lo c [a,b,c',d] vb rb).elem=true:=by
   show ((([(p,0)]:List (Nat × Nat)).all gr0)&&([(⟨0,a,[t1 g 0,t1 h 1]⟩:NEqn),⟨0,b,[t1 g 2,t1 h 3]⟩,⟨0,c',[t1 g 4,t1 h 5]⟩,⟨0,d,[t1 g 6,t1 h 7]⟩,⟨0,shiftN p c g (-lo),[t1 a 0,t1 b 2,t1 c' 4,t1 d 6,t1 h 8]⟩].all (elemQ (stN p g h lo c [a,b,c',d] vb rb))))=true;have hf:∀q:NEqn,q.grp=0→(stN p g h lo c [a,b,c',d] vb rb).gp q=(p,0):=fun q hq=>by unfold NSta.gp;rw[hq];rfl
   simp only[List.all_cons,List.all_nil,Bool.and_true,gr0,hb,elemQ,hf,hasQ,t1,qa,qb,qc,qd,qs,hg,hh,beq_self_eq_true]
  have e2:(stN p g h lo c [a,b,c',d] vb rb).typ=true:=by
   refine typ_vars _ ?_;show [vb,rb,vb,rb,vb,rb,vb,rb,lastB vb rb].any vz=false;simp[vz,hv,hr,hd]
  exact chk_0 (by show ¬ 8<1;decide) e1 e2
end
section
/- Terms,equations,the bound of the last variable;ref14.Shift. -/
open Go.RowKit Go.Shelf
theorem E_1:E 1=⟨#[1]⟩:=by decide +kernel
theorem E_4:E 4=⟨#[4]⟩:=by decide +kernel
def tcs (x:NTrm):List Value:=[.string (E x.base),.int .i64 (x.var:Int),.bool (sg x.coef),.string (E x.coef.natAbs)]
theorem lastB_lt {vb rb:Nat} (hv:vb<256^12) (hr:rb<256^12):vb*4<256^13∧vb*4+1<256^14∧(vb*4+1)*rb<256^32:=by
 have h1:(256:Nat)^13=256*256^12:=by decide
 have h2:(256:Nat)^14=256*256^13:=by decide
 have h3:4*vb+1≤256^13:=by omega
 have h4:=Nat.mul_le_mul h3 (Nat.le_of_lt hr);have h5:(256:Nat)^13*256^12<256^32:=by decide
 refine⟨by omega,by omega,?_⟩;rw[Nat.mul_comm vb 4];exact Nat.lt_of_le_of_lt h4 h5
theorem sqsum_c (vb rb:Nat) (w:World) (hv:vb<256^12) (hr:rb<256^12) :
  Calls Tryz.prog 59 #[.string (E vb),.string (E rb)] w fun e w'=>e=.returned (.tuple #[.string (E (lastB vb rb)),.int .i64 0])∧Bw w w':=by
 obtain⟨k1,k2,k3⟩:=lastB_lt hv hr;have up:∀{n k:Nat},n<256^k→k≤128→n<256^128:=fun h h2=>Nl h (Nat.pow_le_pow_right (by decide) h2)
 have HM:Hid (∀w,Calls Tryz.prog 102 #[.string (E vb),.string ⟨#[4]⟩] w fun e w'=>e=.returned (.tuple #[.string (E (vb*4)),.int .i64 0])∧Bw w w'):=fun w=>by rw[←E_4];exact mul_c vb 4 w (up hv (by decide)) (by decide) (up k1 (by decide))
 have HA:Hid (∀w,Calls Tryz.prog 108 #[.string (E (vb*4)),.string ⟨#[1]⟩] w fun e w'=>e=.returned (.tuple #[.string (E (vb*4+1)),.int .i64 0])∧Bw w w'):=fun w=>by rw[←E_1];exact add_c (vb*4) 1 w (up k1 (by decide)) (by decide) (up k2 (by decide))
 have hb:Hid (∀w,Calls Tryz.prog 102 #[.string (E (vb*4+1)),.string (E rb)] w fun e w'=>e=.returned (.tuple #[.string (E (lastB vb rb)),.int .i64 0])∧Bw w w'):=fun w=>by
  rw[show lastB vb rb=(vb*4+1)*rb by unfold lastB;rw[Nat.mul_comm 4 vb]];exact mul_c (vb*4+1) rb w (up k2 (by decide)) (up hr (by decide)) (up k3 (by decide))
 generalize E vb=s1 at HM ⊢;generalize E (vb*4)=s2 at HM HA;generalize E (vb*4+1)=s3 at HA hb;go_enter Tryz.func59,Tryz.ntmps59
 go_wp2_with fail
 refine (HM.out _).mono ?_;rintro e w1 ⟨rfl,hc⟩;go_wp2_with fail
 refine (HA.out _).mono ?_;rintro e w2 ⟨rfl,hd⟩;go_wp2_with fail
 refine (hb.out _).mono ?_;rintro e w3 ⟨rfl,he⟩;go_wp2;go_ret2
 exact⟨rfl,bt (bt hc hd) he⟩
end
section
/- A statement that a call builds: rows of terms,variables and equations that it owns. -/
open Go.RowKit Go.Shelf
def TOwn (w:World) (base:Nat) (v:Value) (l:List NTrm):Prop:=w.ownsRow base 129 4 v l.length (l.flatMap tcs)
theorem TOwn.after {w w':World} {b:Nat} {v:Value} {l:List NTrm} (h:TOwn w b v l) (hb:Bw w w'):TOwn w' b v l:=own_after h hb
theorem TOwn.ts {w:World} {b:Nat} {v:Value} {l:List NTrm} (h:TOwn w b v l):TsAt w v (l.map NTrm.t):=
 rat_own (fun x:Trm=>[.string x.base,.int .i64 x.var,.bool x.neg,.string x.abs]) (fun _=>rfl) (fun _=>rfl) (l.map NTrm.t) rfl (by
  have e:(l.map NTrm.t).flatMap (fun x:Trm=>[Value.string x.base,.int .i64 x.var,.bool x.neg,.string x.abs])=l.flatMap tcs:=by rw[List.flatMap_map];rfl
  rw[e,List.length_map];exact h)
theorem TOwn.blk {w:World} {g:Nat} (l:List NTrm) (n:Nat) (hn:n=l.length) (hm:n≤1000) (h:Blk w g 129 (l.flatMap tcs)):TOwn w 0 (.slice (some ⟨g,0,none⟩) n n) l:=by
 subst hn;exact own_blk h (flat_len tcs 4 (fun _=>rfl) l) (by simp only[maxLen];omega)
def ecp (x:NEqn × Value):List Value:=[.int .i64 (x.1.grp:Int),.string (E x.1.tgt),x.2]
structure EOwn (w:World) (base:Nat) (x v:Value) (L:List (NEqn × Value)):Prop where
 row:w.ownsRow base 87 3 v L.length (L.flatMap ecp)
 trm:∀e∈L,∃b,TOwn w b e.2 e.1.trms
 far:∀e∈L,∀g,x.ownBlock=some g→e.2.ownBlock≠some g
theorem EOwn.nil (w:World) (base:Nat) (x:Value):EOwn w base x (.slice none 0 0) []:=⟨World.ownsRow_nil _ _ _ _,by simp,by simp⟩
theorem EOwn.after {w w':World} {b:Nat} {x v:Value} {L:List (NEqn × Value)} (h:EOwn w b x v L) (hb:Bw w w'):EOwn w' b x v L:=
 ⟨own_after h.row hb,fun e he=>by obtain⟨b,k⟩:=h.trm e he;exact⟨b,k.after hb⟩,h.far⟩
theorem EOwn.other {w w':World} {b b2 s2 n2:Nat} {e2:TypeId} {x v v2:Value} {x2:List Value} {L:List (NEqn × Value)} (h:EOwn w b x v L) (k:w.ownsRow b2 e2 s2 v2 n2 x2) (h1:87≠e2) (h2:129≠e2) (hg:w.grownBy w' v2.ownBlock):EOwn w' b x v L:=
 ⟨own_grown h.row k h1 hg,fun e he=>by obtain⟨b,t⟩:=h.trm e he;exact⟨b,own_grown t k h2 hg⟩,h.far⟩
theorem EOwn.set {w:World} {b g i:Nat} {T:TypeId} {cs:List Value} {x v u:Value} {L:List (NEqn × Value)} (h:EOwn w b x v L) (k:Blk w g T cs) (h1:87≠T) (h2:129≠T):EOwn (w.setCell ⟨g,i,none⟩ u) b x v L:=
 ⟨own_set h.row (own_ne h.row k h1),fun e he=>by obtain⟨b,t⟩:=h.trm e he;exact⟨b,own_set t (own_ne t k h2)⟩,h.far⟩
theorem EOwn.snoc {w w':World} {b b1 n':Nat} {x v v':Value} {L:List (NEqn × Value)} {q:NEqn} {u:Value} (h:EOwn w b x v L) (hg:w.grownBy w' v.ownBlock) (hn:n'=L.length+1) (ho:w'.ownsRow b 87 3 v' n' (L.flatMap ecp++ecp (q,u))) (hu:TOwn w b1 u q.trms) (hx:∀g,x.ownBlock=some g→u.ownBlock≠some g) :
  EOwn w' b x v' (L++[(q,u)]):=by
 refine⟨by rw[List.length_append,List.flatMap_append];subst hn;simpa using ho,fun e he=>?_,fun e he=>?_⟩
 ·rcases List.mem_append.1 he with he | he
  ·obtain⟨b,t⟩:=h.trm e he;exact⟨b,own_grown t h.row (by decide) hg⟩
  ·obtain rfl:=List.mem_singleton.1 he;exact⟨b1,own_grown hu h.row (by decide) hg⟩
 ·rcases List.mem_append.1 he with he | he
  ·exact h.far e he
  ·obtain rfl:=List.mem_singleton.1 he;exact hx
theorem EOwn.terms {w w':World} {b b1 s1 n1 g m c:Nat} {x v:Value} {xs:List Value} {L:List (NEqn × Value)} (h:EOwn w b x v L) (k:w.ownsRow b1 129 s1 x n1 xs) (hg:w.grownBy w' x.ownBlock) (ha:x.ownBlock=some g∨g=w.heap.size) :
  EOwn w' b (.slice (some ⟨g,0,none⟩) m c) v L:=by
 refine⟨own_grown h.row k (by decide) hg,fun e he=>?_,fun e he g' hb=>?_⟩
 ·obtain⟨b2,t⟩:=h.trm e he;exact⟨b2,own_keep t fun y hy=>hg.block y (own_lt t hy).1 (fun e'=>h.far e he y e'.symm hy)⟩
 ·have e1:g=g':=by simpa [Value.ownBlock] using hb
  subst e1;rcases ha with ha | ha
  ·exact h.far e he g ha
  ·obtain⟨b2,t⟩:=h.trm e he;intro hy;have:=(own_lt t hy).1;omega
theorem EOwn.es {w:World} {b:Nat} {x v:Value} {L:List (NEqn × Value)} (h:EOwn w b x v L):EsAt w v (L.map fun e=>e.1.q):=by
 have h1:RAt (fun _ (e:NEqn × Value) cs=>cs=ecp e) 3 w v L:=rat_own ecp (fun _=>rfl) (fun _=>rfl) L rfl h.row;obtain⟨ao,c,rfl,h2⟩:=h1;refine⟨ao,c,by rw[List.length_map],?_⟩;rcases h2 with h2 | ⟨bb,o,rfl,hlt,h3⟩
 ·exact .inl (by rw[List.length_map];exact h2)
 ·refine .inr ⟨bb,o,rfl,hlt,fun j hj=>?_⟩;rw[List.length_map]at hj;obtain⟨cs,rfl,hc⟩:=h3 j hj;refine⟨_,?_,hc⟩;obtain⟨b2,t⟩:=h.trm L[j] (Gm hj);rw[List.getElem_map];exact⟨L[j].2,rfl,t.ts⟩
def VOwn (w:World) (base:Nat) (v:Value) (l:List Nat):Prop:=w.ownsRow base 81 1 v l.length (strs l)
theorem VOwn.ss {w:World} {b:Nat} {v:Value} {l:List Nat} (h:VOwn w b v l):SsAt w v (l.map E):=
 rat_own (fun s=>[Value.string s]) (fun _=>rfl) (fun _=>rfl) (l.map E) (by rw[List.length_map]) (by
  rw[flat_strs];have e:(l.map E).map Value.string=strs l:=by unfold strs;rw[List.map_map];rfl
  rw[e];exact h)
end
section
open Go.RowKit Go.Shelf
theorem infoV27:(Tryz.prog.info? 81).map (fun i=>(i.zero,i.size,i.bytes))=some (some (.agg #[.string { data:=#[] }]),1,16):=by kernel_rfl
theorem infoT27:(Tryz.prog.info? 129).map (fun i=>(i.zero,i.size,i.bytes))=some (some (.agg #[.string { data:=#[] },.int .i64 0,.bool false,.string { data:=#[] }]),4,48):=by kernel_rfl
theorem infoE27:(Tryz.prog.info? 87).map (fun i=>(i.zero,i.size,i.bytes))=some (some (.agg #[.int .i64 0,.string { data:=#[] },.slice none 0 0]),3,48):=by kernel_rfl
theorem stV_len (vb rb k:Nat):(stV vb rb k).length=2*k:=by
 induction k with
 | zero=>rfl
 | succ k ih=>rw[stV_snoc,List.length_append,ih];simp;omega
theorem stT_len (P:List Nat) (k:Nat):(stT P k).length=k:=by unfold stT;simp
theorem stQ_len (g h:Nat) (P:List Nat) (k:Nat):(stQ g h P k).length=k:=by unfold stQ;simp
def nilN:NSta:=⟨[],[],[]⟩
def hasAll (p c:Nat) (P:List Nat):Bool:=hasB p 0 c&&P.all (hasB p 0)
def stR (a b c d:ByteArray) (lo:Int) (cc:ByteArray) (P:List ByteArray) (vl rd:ByteArray):Nat × NSta:=
 if chkV [] (cc :: vl :: rd :: P) a b c d≠0 then (chkV [] (cc :: vl :: rd :: P) a b c d,nilN)
 else if vl.size=0∨rd.size=0 then (11,nilN)
 else if P.length≠4 then (6,nilN)
 else if hasAll (numb a) (numb cc) (P.map numb)=false then (13,nilN)
 else (0,stN (numb a) (numb c) (numb d) lo (numb cc) (P.map numb) (numb vl) (numb rd))
def StPost (w:World) (r:Nat × NSta) (e:Ending) (w':World):Prop:=∃v1 v2 v3,e=.returned (.tuple #[.agg #[v1,v2,v3],.int .i64 (r.1:Int)])∧NAt w' v1 v2 v3 r.2∧Bw w w'
theorem nat_nil (w:World):NAt w (.slice none 0 0) (.slice none 0 0) (.slice none 0 0) nilN:=⟨⟨none,0,rfl,.inl rfl⟩,⟨none,0,rfl,.inl rfl⟩,⟨none,0,rfl,.inl rfl⟩⟩
theorem StPost.err {w w':World} {k:Nat} (h:Bw w w'):StPost w (k,nilN) (.returned (.tuple #[.agg #[.slice none 0 0,.slice none 0 0,.slice none 0 0],.int .i64 (k:Int)])) w':=
 ⟨_,_,_,rfl,nat_nil _,h⟩
theorem stR_chk {a b c d:ByteArray} {lo:Int} {cc:ByteArray} {P:List ByteArray} {vl rd:ByteArray} {m:Nat} (h:chkV [] (cc :: vl :: rd :: P) a b c d=m) (hm:m≠0):stR a b c d lo cc P vl rd=(m,nilN):=by
 unfold stR;rw[h,if_pos hm]
theorem chk_nums {a b c d:ByteArray} {cc:ByteArray} {P:List ByteArray} {vl rd:ByteArray} (h:chkV [] (cc :: vl :: rd :: P) a b c d=0):kyV a b c d=0∧vldB cc=true∧vldB vl=true∧vldB rd=true∧P.all vldB=true:=by
 unfold chkV at h;split at h
 ·rename_i h1;have h2:=h1.2;simp only[List.all_cons,Bool.and_eq_true]at h2;exact⟨h,h2.1,h2.2.1,h2.2.2.1,h2.2.2.2⟩
 ·omega
theorem all_nums {P:List ByteArray} (h:P.all vldB=true):P=(P.map numb).map E:=by
 induction P with
 | nil=>rfl
 | cons x t ih =>
  rw[List.all_cons,Bool.and_eq_true]at h;obtain⟨n,_,rfl⟩:=of_vldB h.1;rw[List.map_cons,List.map_cons,numb_E,←ih h.2]
theorem stR_zero {p g k c1 vb rb:Nat} {lo:Int} {P:List Nat} (h:chkV [] (E c1 :: E vb :: E rb :: P.map E) (E p) (E 0) (E g) (E k)=0) :
  stR (E p) (E 0) (E g) (E k) lo (E c1) (P.map E) (E vb) (E rb)=if vb=0∨rb=0 then (11,nilN) else if P.length≠4 then (6,nilN) else if hasAll p c1 P=false then (13,nilN) else (0,stN p g k lo c1 P vb rb):=by
 have e:(P.map E).map numb=P:=by
                    rw[List.map_map];conv=>rhs;rw[←List.map_id P]
                    exact List.map_congr_left fun x _=>numb_E x
 unfold stR;rw[if_neg (by rw[h];decide),e,List.length_map,numb_E,numb_E,numb_E,numb_E,numb_E,numb_E];simp only[empty_E]
end
end Go.Proofs.YtdgddpnjkinciaaGreatDoor
