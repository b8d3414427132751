/- What a prover returns is accepted. Plain Lean. -/
import Derived.Test.YtihjpddbjhcbmaaGreatDoorDrp
set_option linter.unusedVariables false
set_option linter.unusedSimpArgs false
set_option maxRecDepth 100000
set_option maxHeartbeats 16000000
namespace Go.Proofs.YtihjpddbjhcbmaaGreatDoor
section
/- Powers of powers in a group,for exponents of either sign. Plain Lean. -/
theorem pow_one_of (y q k p:Nat) (h:y^q%p=1%p):(y^k%p)^q%p=1%p:=by
 rw[←Nat.pow_mod,←Nat.pow_mul,Nat.mul_comm,Nat.pow_mul,Nat.pow_mod,h,←Nat.pow_mod,Nat.one_pow]
theorem inv_pow_one (b y q p:Nat) (hb:b^q%p=1%p) (hy:b*y%p=1%p):y^q%p=1%p:=by
 have h1:(b*y)^q%p=1%p:=by rw[Nat.pow_mod,hy,←Nat.pow_mod,Nat.one_pow]
 rw[Nat.mul_pow,Nat.mul_mod,hb,←Nat.mul_mod,Nat.one_mul]at h1;exact h1
theorem hasB_of {p q x:Nat} (hq:0<q) (hp:2≤p) (hx:x<p) (h:x^q%p=1%p):hasB p q x=true:=by
 unfold hasB;rw[if_neg (by omega),decide_eq_true_iff];refine⟨?_,hx,h⟩;rintro rfl;rw[Nat.zero_pow hq,Nat.zero_mod,Nat.mod_eq_of_lt (show 1<p by omega)]at h;omega
theorem hasB_pow1 {p q x:Nat} (hq:0<q) (h:hasB p q x=true):x^q%p=1%p:=by
 unfold hasB at h;rw[if_neg (by omega),decide_eq_true_iff]at h;exact h.2.2
theorem has_powI {p q x:Nat} (z:Int) (hp:2≤p) (hq:0<q) (h:hasB p q x=true):hasB p q (powI x z p)=true:=by
 have h1:=hasB_pow1 hq h;have hlt:=has_lt h;unfold powI;split
 ·refine hasB_of hq hp (Nat.mod_lt _ (by omega)) (pow_one_of _ _ _ _ ?_);rw[Nat.mod_eq_of_lt hlt];exact inv_pow_one x _ q p h1 (invN_spec x p (by omega) (has_coprime hp h))
 ·exact hasB_of hq hp (Nat.mod_lt _ (by omega)) (pow_one_of _ _ _ _ h1)
theorem unit_pow {u v p:Nat} (k:Nat) (h:u*v%p=1%p):u^k*v^k%p=1%p:=by
 rw[←Nat.mul_pow,Nat.pow_mod,h,←Nat.pow_mod,Nat.one_pow]
theorem unit_coprime {u v p:Nat} (hp:2≤p) (h:u*v%p=1%p):Nat.gcd u p=1:=by
 have h2:Nat.gcd u p∣u*v%p:=(Nat.dvd_mod_iff (Nat.gcd_dvd_right u p)).2 (Nat.dvd_trans (Nat.gcd_dvd_left u p) (Nat.dvd_mul_right _ _));rw[h,Nat.mod_eq_of_lt (by omega)]at h2;exact Nat.dvd_one.1 h2
theorem inv_pow {u v p:Nat} (k:Nat) (hp:2≤p) (h:u*v%p=1%p):invN (u^k%p%p) p=v^k%p:=by
 have h1:u^k%p%p*(v^k%p)%p=1%p:=by rw[Nat.mod_mod,←Nat.mul_mod];exact unit_pow k h
 exact (inv_eq _ p _ (by omega) (unit_coprime hp h1) (Nat.mod_lt _ (by omega)) h1).symm
theorem pow_pow_mod (u a b p:Nat):(u^a%p)^b%p=u^(a*b)%p:=by
 rw[←Nat.pow_mod,Nat.pow_mul]
theorem powI_powI {p x:Nat} (a b:Int) (hp:2≤p) (hx:x<p) (hg:Nat.gcd x p=1):powI (powI x a p) b p=powI x (a*b) p:=by
 have hi:x*invN x p%p=1%p:=invN_spec x p (by omega) hg;have hd:invN x p*x%p=1%p:=by rw[Nat.mul_comm];exact hi
 have e0:x%p=x:=Nat.mod_eq_of_lt hx;have en:(a*b).natAbs=a.natAbs*b.natAbs:=Int.natAbs_mul a b;by_cases ha:a<0
 ·by_cases hb:b<0
  ·have hc:¬ a*b<0:=by have:=Int.mul_pos_of_neg_of_neg ha hb;omega
   unfold powI;rw[if_pos ha,if_pos hb,if_neg hc,e0,inv_pow _ hp hd,pow_pow_mod,en]
  ·by_cases he:b=0
   ·subst he;rw[Int.mul_zero];unfold powI;simp
   ·have hc:a*b<0:=Int.mul_neg_of_neg_of_pos ha (by omega);unfold powI;rw[if_pos ha,if_neg hb,if_pos hc,e0,pow_pow_mod,en]
 ·by_cases hb:b<0
  ·by_cases hf:a=0
   ·subst hf
    have h1:invN (1%p) p=1%p:=by
     have:=inv_pow (u:=x) 0 hp hi;simpa using this
    rw[Int.zero_mul];have e1:powI x 0 p=1%p:=by unfold powI;rw[if_neg (by decide)];rfl
    rw[e1];unfold powI;rw[if_pos hb,Nat.mod_mod,h1,←Nat.pow_mod,Nat.one_pow]
   ·have hc:a*b<0:=Int.mul_neg_of_pos_of_neg (by omega) hb;unfold powI;rw[if_neg ha,if_pos hb,if_pos hc,e0,inv_pow _ hp hi,pow_pow_mod,en]
  ·have hc:¬ a*b<0:=by have:=Int.mul_nonneg (show 0≤a by omega) (show 0≤b by omega);omega
   unfold powI;rw[if_neg ha,if_neg hb,if_neg hc,pow_pow_mod,en]
theorem has_powIq {p q x:Nat} (z:Int) (hp:2≤p) (h:hasB p q x=true):hasB p q (powI x z p)=true:=by
 by_cases hq:q=0
 ·subst hq;have hg:=has_coprime hp h;have hx:=has_lt h;have e:=powI_powI z (-1) hp hx hg
  have hu:Nat.gcd (powI x z p) p=1:=by
   have hi:x*invN x p%p=1%p:=invN_spec x p (by omega) hg;unfold powI;rw[Nat.mod_eq_of_lt hx];split
   ·have:invN x p^z.natAbs%p*(x^z.natAbs%p)%p=1%p:=by rw[←Nat.mul_mod];exact unit_pow _ (by rw[Nat.mul_comm];exact hi)
    exact unit_coprime hp this
   ·have:x^z.natAbs%p*(invN x p^z.natAbs%p)%p=1%p:=by rw[←Nat.mul_mod];exact unit_pow _ hi
    exact unit_coprime hp this
  have hl:powI x z p<p:=by unfold powI;split <;> exact Nat.mod_lt _ (by omega)
  unfold hasB;rw[if_pos rfl,decide_eq_true_iff];refine⟨fun h0=>?_,hl,hu⟩;rw[h0,Nat.gcd_zero_left]at hu;omega
 ·exact has_powI z hp (by omega) h
theorem has_mulq {p q x y:Nat} (hp:2≤p) (hx:hasB p q x=true) (hy:hasB p q y=true):hasB p q (x*y%p)=true:=by
 have hl:x*y%p<p:=Nat.mod_lt _ (by omega);by_cases hq:q=0
 ·subst hq;have h1:x*invN x p%p=1%p:=invN_spec x p (by omega) (has_coprime hp hx);have h2:y*invN y p%p=1%p:=invN_spec y p (by omega) (has_coprime hp hy)
  have h3:x*y%p*(invN x p*invN y p)%p=1%p:=by
   rw[Nat.mod_mul_mod,Nat.mul_mul_mul_comm,Nat.mul_mod,h1,h2,←Nat.mul_mod,Nat.one_mul]
  have hu:=unit_coprime hp h3;unfold hasB;rw[if_pos rfl,decide_eq_true_iff];refine⟨fun h0=>?_,hl,hu⟩;rw[h0,Nat.gcd_zero_left]at hu;omega
 ·refine hasB_of (by omega) hp hl ?_;rw[←Nat.pow_mod,Nat.mul_pow,Nat.mul_mod,hasB_pow1 (by omega) hx,hasB_pow1 (by omega) hy,←Nat.mul_mod,Nat.one_mul]
def prodK (p:Nat) (L:List Nat) (X:List Int) (k:Nat):Nat:=pw (prs p (L.take k) (X.take k)) 0%p
theorem prodK_one {p x:Nat} {z:Int} {L:List Nat} {X:List Int} (hx:x<p):prodK p (x :: L) (z :: X) 1=powI x z p:=by
 unfold prodK;simp only[List.take_succ_cons,List.take_zero];exact pw1_eq z hx
theorem prodK_step {p k:Nat} {L:List Nat} {X:List Int} (h1:k<L.length) (h2:k<X.length) (hx:L[k]<p):prodK p L X k*powI L[k] X[k] p%p=prodK p L X (k+1):=prodI_step p L X k h1 h2 hx
theorem has_one {p q:Nat} (hp:2≤p):hasB p q 1=true:=by
 unfold hasB;split
 ·rw[decide_eq_true_iff];exact⟨by decide,by omega,Nat.gcd_one_left p⟩
 ·rw[decide_eq_true_iff];exact⟨by decide,by omega,by rw[Nat.one_pow]⟩
theorem prodK_has {p q:Nat} {L:List Nat} {X:List Int} (hp:2≤p) (hl:X.length=L.length) (hx:∀x∈L,hasB p q x=true):∀k,k≤L.length→hasB p q (prodK p L X k)=true:=by
 intro k;induction k with
 | zero =>
  intro _
  have:prodK p L X 0=1:=by
   unfold prodK;simp only[List.take_zero,prs,List.zipWith_nil_left,pw];exact Nat.mod_eq_of_lt (by omega)
  rw[this];exact has_one hp
 | succ k ih =>
  intro h;have hk:k<L.length:=by omega
  have hb:=hx _ (Gm hk);rw[←prodK_step hk (by omega) (has_lt hb)];exact has_mulq hp (ih (by omega)) (has_powIq _ hp hb)
theorem prodK_end {p k:Nat} {L:List Nat} {X:List Int} (h1:L.length≤k) (h2:X.length≤k):prodK p L X k=pw (prs p L X) 0%p:=by
 unfold prodK;rw[List.take_of_length_le h1,List.take_of_length_le h2]
def msgX (c:Nat) (Z:List Int) (q:NEqn):List Int:=-(c:Int) :: imgX Z q
def msgB (q:NEqn):List Nat:=q.tgt :: imgB q
def msgQ (N:NSta) (c:Nat) (Z:List Int) (q:NEqn):Nat:=pw (prs (N.gp q).1 (msgB q) (msgX c Z q)) 0%(N.gp q).1
def NSta.msgs (N:NSta) (c:Nat) (Z:List Int):List Nat:=N.eqs.map (msgQ N c Z)
theorem msgs_step (N:NSta) (c:Nat) (Z:List Int) (k:Nat) (h:k<N.eqs.length):(N.msgs c Z).take (k+1)=(N.msgs c Z).take k++[msgQ N c Z N.eqs[k]]:=by
 unfold NSta.msgs;rw[←List.map_take,List.take_succ_eq_append_getElem h,List.map_append,List.map_take];rfl
theorem msg_len (c:Nat) (Z:List Int) (q:NEqn):(msgX c Z q).length=(msgB q).length:=by simp[msgX,msgB,imgX,imgB]
theorem msg_stepK {p c k:Nat} {Z:List Int} {q:NEqn} (hk:k<q.trms.length) (hp:2≤p) (hx:q.trms[k].base<p) (hg:Nat.gcd q.trms[k].base p=1) :
  prodK p (msgB q) (msgX c Z q) (k+1)*powI (powI q.trms[k].base q.trms[k].coef p) (Z.getD q.trms[k].var 0) p%p=prodK p (msgB q) (msgX c Z q) (k+2):=by
 have h1:k+1<(msgB q).length:=by simp[msgB,imgB];omega
 have h2:k+1<(msgX c Z q).length:=by simp[msgX,imgX];omega
 have e1:(msgB q)[k+1]=q.trms[k].base:=by simp[msgB,imgB]
 have e2:(msgX c Z q)[k+1]=q.trms[k].coef*Z.getD q.trms[k].var 0:=by simp[msgX,imgX]
 rw[powI_powI _ _ hp hx hg,←e1,←e2];exact prodK_step h1 h2 (by rw[e1];exact hx)
end
section
/- Two accepted proofs with one first message: in each equation the powers with the differences give 1. -/
open Go.RowKit Go.Shelf
theorem mmod {a b c d p:Nat} (h1:a%p=b%p) (h2:c%p=d%p):a*c%p=b*d%p:=by
 rw[Nat.mul_mod,h1,h2,←Nat.mul_mod]
def fx (p x:Nat) (z:Int):Nat:=bse p x z^z.natAbs
theorem fx_eq (p x:Nat) (z:Int):fx p x z=x^z.toNat*invN x p^(-z).toNat:=by
 unfold fx bse;by_cases h:z<0
 ·rw[if_pos h,show z.toNat=0 by omega,show (-z).toNat=z.natAbs by omega,Nat.pow_zero,Nat.one_mul]
 ·rw[if_neg h,show (-z).toNat=0 by omega,show z.toNat=z.natAbs by omega,Nat.pow_zero,Nat.mul_one]
theorem xy_pow {p x y:Nat} (h:x*y%p=1%p) (n:Nat):x^n*y^n%p=1%p:=by
 rw[←Nat.mul_pow,Nat.pow_mod,h,←Nat.pow_mod,Nat.one_pow]
theorem fx_sub {p x:Nat} (hp:0<p) (hg:Nat.gcd x p=1) (m n:Nat):x^m*invN x p^n%p=fx p x ((m:Int)-n)%p:=by
 have h:=invN_spec x p hp hg;rw[fx_eq];generalize invN x p=y at h;by_cases hl:n≤m
 ·rw[show ((m:Int)-n).toNat=m-n by omega,show (-((m:Int)-n)).toNat=0 by omega,Nat.pow_zero,Nat.mul_one];obtain⟨d,rfl⟩:∃d,m=d+n:=⟨m-n,by omega⟩;rw[Nat.pow_add,Nat.mul_assoc,Nat.add_sub_cancel];have:=mmod (p:=p) (a:=x^d) (b:=x^d) rfl (xy_pow h n);rwa [Nat.mul_one]at this
 ·rw[show ((m:Int)-n).toNat=0 by omega,show (-((m:Int)-n)).toNat=n-m by omega,Nat.pow_zero,Nat.one_mul];obtain⟨d,rfl⟩:∃d,n=m+d:=⟨n-m,by omega⟩;rw[Nat.pow_add,←Nat.mul_assoc,Nat.add_sub_cancel_left];have:=mmod (p:=p) (c:=y^d) (d:=y^d) (xy_pow h m) rfl;rwa [Nat.one_mul]at this
theorem fx_add {p x:Nat} (hp:0<p) (hg:Nat.gcd x p=1) (a b:Int):fx p x a*fx p x b%p=fx p x (a+b)%p:=by
 have h:=fx_sub hp hg (a.toNat+b.toNat) ((-a).toNat+(-b).toNat);rw[show ((a.toNat+b.toNat:Nat):Int)-(((-a).toNat+(-b).toNat:Nat):Int)=a+b by omega]at h;rw[←h,fx_eq,fx_eq,Nat.pow_add,Nat.pow_add];congr 1
 simp only[Nat.mul_assoc,Nat.mul_left_comm,Nat.mul_comm]
theorem fx_pos {p x q:Nat} (h:x^q%p=1%p) (k:Nat):fx p x ((q:Int)*k)%p=1%p:=by
 rw[fx_eq,←Int.natCast_mul,Int.toNat_natCast,show (-((q*k:Nat):Int)).toNat=0 by omega,Nat.pow_zero,Nat.mul_one,Nat.pow_mul,Nat.pow_mod,h,←Nat.pow_mod,Nat.one_pow]
theorem fx_ord {p x q:Nat} (hp:0<p) (hg:Nat.gcd x p=1) (h:x^q%p=1%p) (k:Int):fx p x ((q:Int)*k)%p=1%p:=by
 obtain⟨n,rfl | rfl⟩:=k.eq_nat_or_neg
 ·exact fx_pos h n
 ·have h1:=fx_add hp hg ((q:Int)*-(n:Int)) ((q:Int)*n);rw[←Int.mul_add,Int.add_left_neg,Int.mul_zero]at h1;have h2:=mmod (p:=p) (a:=fx p x ((q:Int)*-(n:Int))) rfl (fx_pos h n);rw[Nat.mul_one]at h2;rw[←h2,h1];rfl
def ptx (p:Nat) (Z:List Int) (ts:List NTrm):Nat:=pw (prs p (ts.map (·.base)) (ts.map fun t=>t.coef*Z.getD t.var 0)) 0
theorem ptx_cons (p:Nat) (Z:List Int) (t:NTrm) (ts:List NTrm):ptx p Z (t :: ts)=fx p t.base (t.coef*Z.getD t.var 0)*ptx p Z ts:=by
 unfold ptx fx;simp[prs,pw]
theorem mcancel {a b u p:Nat} (hp:0<p) (hg:Nat.gcd u p=1) (h:a*u%p=b*u%p):a%p=b%p:=by
 have hv:=invN_spec u p hp hg;have h1:=mmod (p:=p) (c:=invN u p) (d:=invN u p) h rfl
 have e:∀z:Nat,z*u*invN u p%p=z%p:=fun z=>by
  rw[Nat.mul_assoc];have:=mmod (p:=p) (a:=z) (b:=z) rfl hv;rwa [Nat.mul_one]at this
 rwa [e,e]at h1
theorem ver_eq {N:NSta} {C K c:Nat} {F:List Nat} {Z:List Int} (hm:NOk N) (hv:N.ver C K F c Z=0) (j:Nat) (hj:j<N.eqs.length) (hF:j<F.length) :
  F[j]*N.eqs[j].tgt^c%(N.gp N.eqs[j]).1=ptx (N.gp N.eqs[j]).1 Z N.eqs[j].trms%(N.gp N.eqs[j]).1∧hasB (N.gp N.eqs[j]).1 (N.gp N.eqs[j]).2 F[j]=true:=by
 have hg:=(hm.e _ (Gm hj)).1;have hb:=gp_at N N.eqs[j] hg;unfold NSta.ver at hv;split at hv
 ·omega
 split at hv
 ·omega
 split at hv
 ·omega
 split at hv
 ·omega
 rename_i h5;have h7:=ra_at (by simpa using h5) hj;rw[hsJ_at N F j hj hF hg,←hb]at h7;split at hv
 ·omega
 rename_i h5;have h6:=ra_at (by simpa using h5) hj;rw[imJ_at N F c Z j hj hF hg,decide_eq_true_iff,powI_nat,←hb]at h6;rw[Nat.mul_mod,Nat.mod_mod,←Nat.mul_mod]at h6;exact⟨h6,h7⟩
end
section
open Go.RowKit Go.Shelf
theorem typ_base {N:NSta} (hc:N.chk=0) (q:NEqn) (hq:q∈N.eqs) (hg:q.grp<N.grps.length) (t:NTrm) (ht:t∈q.trms) (hv:t.var<N.vars.length) (h0:N.vars[t.var]=0) (hb:hasB (N.gp q).1 (N.gp q).2 t.base=true):t.base^N.ord%(N.gp q).1=1%(N.gp q).1:=by
 obtain⟨_,_,hd⟩:=chk_inv hc;have he:N.vars.any vz=true:=by rw[List.any_eq_true];exact⟨N.vars[t.var],Gm hv,by simp[vz,h0]⟩
 unfold NSta.typ at hd;rw[he]at hd;simp only[Bool.not_true,Bool.false_or,Bool.and_eq_true,List.all_eq_true]at hd;obtain⟨⟨h1,h2⟩,h3⟩:=hd;have hk:=h3 q hq
 have hh:q.trms.any N.tz=true:=by
  rw[List.any_eq_true];refine⟨t,ht,?_⟩;unfold NSta.tz;rw[List.getD_eq_getElem?_getD,List.getElem?_eq_getElem hv,Option.getD_some,h0];rfl
 unfold kindQ at hk;rw[hh]at hk;simp only[Bool.not_true,Bool.or_false,Bool.not_eq_true',vz,beq_eq_false_iff_ne]at hk
 have hf:gq N.ord (N.gp q)=false:=by
  cases e:gq N.ord (N.gp q)
  ·rfl
  ·exfalso;have:N.grps.any (gq N.ord)=true:=by rw[List.any_eq_true];exact⟨N.gp q,by rw[gp_at N q hg];exact Gm hg,e⟩
   rw[this]at h2;simp at h2
 have hi:(N.gp q).2=N.ord:=by
  apply Classical.byContradiction
  intro hn;unfold gq at hf;simp[hk,hn]at hf
 unfold hasB at hb;rw[if_neg hk,decide_eq_true_iff,hi]at hb;exact hb.2.2
theorem fx_powc {p x:Nat} (hp:0<p) (hg:Nat.gcd x p=1) (z:Int) (c:Nat):fx p x z^c%p=fx p x (z*c)%p:=by
 have h:=fx_sub hp hg (z.toNat*c) ((-z).toNat*c)
 rw[show ((z.toNat*c:Nat):Int)-(((-z).toNat*c:Nat):Int)=z*c by
  rw[Int.natCast_mul,Int.natCast_mul,←Int.sub_mul];congr 1
  omega]at h
 rw[←h,fx_eq,Nat.mul_pow,←Nat.pow_mul,←Nat.pow_mul]
theorem ptx_powc {p:Nat} (W M R:List Int) (c:Nat) (ts:List NTrm) (h:∀t∈ts,fx p t.base (t.coef*M.getD t.var 0)*fx p t.base (t.coef*W.getD t.var 0)^c%p=fx p t.base (t.coef*R.getD t.var 0)%p):ptx p M ts*ptx p W ts^c%p=ptx p R ts%p:=by
 induction ts with
 | nil =>
  show 1*1^c%p=1%p;rw[Nat.one_pow]
 | cons t ts ih =>
  rw[ptx_cons,ptx_cons,ptx_cons,Nat.mul_pow];have h1:=mmod (h t (by simp)) (ih fun u hu=>h u (by simp[hu]));rw[←h1];congr 1
  simp only[Nat.mul_assoc,Nat.mul_left_comm]
theorem imgs_at (N:NSta) (Z:List Int) (j:Nat) (h:j<N.eqs.length):(N.imgs Z).getD j 0=imgV N Z N.eqs[j]:=by
 unfold NSta.imgs;rw[List.getD_eq_getElem?_getD,List.getElem?_map,List.getElem?_eq_getElem h];rfl
theorem img_ptx (N:NSta) (Z:List Int) (q:NEqn):imgV N Z q=ptx (N.gp q).1 Z q.trms%(N.gp q).1:=rfl
theorem compl_key {N:NSta} {c:Nat} {W M:List Int} (hm:NOk N) (hc:N.chk=0) (hI:N.imgs W=N.eqs.map (·.tgt)) (j:Nat) (hj:j<N.eqs.length) :
  hasB (N.gp N.eqs[j]).1 (N.gp N.eqs[j]).2 (imgV N M N.eqs[j])=true∧imgV N M N.eqs[j]*powI N.eqs[j].tgt (c:Int) (N.gp N.eqs[j]).1%(N.gp N.eqs[j]).1=imgV N (N.rspL c W M) N.eqs[j]:=by
 have hq:=hm.e _ (Gm hj);have hg:=hq.1;obtain⟨e1,e2,e3⟩:=chk_elem hc j hj hg;have hh:=gp_at N N.eqs[j] hg
 have ht:N.eqs[j].tgt=imgV N W N.eqs[j]:=by
  have h1:=imgs_at N W j hj;rw[hI,List.getD_eq_getElem?_getD,List.getElem?_map,List.getElem?_eq_getElem hj]at h1;exact h1
 have hi:=Gm hj
 have hk:∀v,v<N.vars.length→(N.rspL c W M).getD v 0=rspJ N c W M v:=fun v hv=>by
  unfold NSta.rspL;rw[List.getD_eq_getElem?_getD,List.getElem?_map,List.getElem?_range hv];rfl
 generalize N.eqs[j]=q at *;rw[←hh]at e1 e2 e3;have hp:=grp_gt e1;have hd:0<(N.gp q).1:=by omega
 refine⟨?_,?_⟩
 ·have h:=prodK_has (X:=imgX M q) hp (by simp[imgX,imgB]) e3 (imgB q).length (Nat.le_refl _);rwa [prodK_end (Nat.le_refl _) (by simp[imgX,imgB])]at h
 ·rw[powI_nat,img_ptx,img_ptx,←Nat.mul_mod,ht,img_ptx];rw[Nat.mul_mod,←Nat.pow_mod,←Nat.mul_mod];refine ptx_powc W M _ c q.trms fun t he=>?_
  have hv:=(hq.2.2.2 t he).2.1;have hb:=e3 t.base (List.mem_map.2 ⟨t,he,rfl⟩);have hco:=has_coprime hp hb;rw[hk _ hv,Nat.mul_mod,fx_powc hd hco,←Nat.mul_mod,fx_add hd hco];unfold rspJ;rw[List.getD_eq_getElem?_getD (l:=N.vars),List.getElem?_eq_getElem hv,Option.getD_some];generalize M.getD t.var 0=m;generalize W.getD t.var 0=z;unfold rspI;by_cases h0:N.vars[t.var]=0
  ·rw[if_pos h0,Int.emod_def];have hf:=typ_base hc q hi hg t he hv h0 hb;have h1:=fx_ord hd hco hf (-(t.coef*((m+(c:Int)*z) / (N.ord:Int))));have h2:=mmod (p:=(N.gp q).1) (a:=fx (N.gp q).1 t.base (t.coef*m+t.coef*z*(c:Int))) rfl h1;rw[Nat.mul_one,fx_add hd hco]at h2;rw[←h2];congr 2
   generalize (m+(c:Int)*z) / (N.ord:Int)=k;rw[Int.mul_sub,Int.mul_add,Int.mul_neg,Int.sub_eq_add_neg];congr 2
   ·rw[Int.mul_assoc,Int.mul_comm z]
   ·rw[←Int.mul_assoc,←Int.mul_assoc,Int.mul_comm (N.ord:Int)]
  ·rw[if_neg h0,Int.mul_add,Int.mul_assoc,Int.mul_comm z]
theorem compl_ver {N:NSta} {C K c:Nat} {W M:List Int} (hm:NOk N) (hc:N.chk=0) (hb:c<C) (hH:N.hldB W=true) (hr:N.rsp2 C K c W M=0):N.ver C K (N.imgs M) c (N.rspL c W M)=0:=by
 unfold NSta.hldB at hH;simp only[Bool.and_eq_true,decide_eq_true_iff]at hH;obtain⟨hW,_,hI⟩:=hH
 have hrs:ra N.vars.length (rsJ N C K c W M)=true:=by
  unfold NSta.rsp2 at hr;cases h:ra N.vars.length (rsJ N C K c W M) with
  | true=>rfl
  | false=>rw[if_pos h]at hr;cases hr
 have hd:(N.rspL c W M).length=N.vars.length:=by simp[NSta.rspL]
 have he:(N.imgs M).length=N.eqs.length:=by simp[NSta.imgs]
 refine ver_0 he hd hb (ra_true fun j hj=>?_) (ra_true fun j hj=>?_) (ra_true fun j hj=>?_)
 ·have h:=ra_at hrs hj;unfold rsJ at h;unfold blJ
  have:(N.rspL c W M).getD j 0=rspJ N c W M j:=by
   unfold NSta.rspL;rw[List.getD_eq_getElem?_getD,List.getElem?_map,List.getElem?_range hj];rfl
  rw[this];exact h
 ·unfold hsJ;rw[eq_at N j hj,imgs_at N M j hj];exact (compl_key (c:=c) (W:=W) (M:=M) hm hc hI j hj).1
 ·unfold imJ;rw[eq_at N j hj,imgs_at N M j hj,decide_eq_true_iff];exact (compl_key (c:=c) (W:=W) (M:=M) hm hc hI j hj).2
end
end Go.Proofs.YtihjpddbjhcbmaaGreatDoor
