import Derived.Test.YtdoacbdkbbpamaaGreatDoorRInt5
set_option linter.unusedVariables false
set_option linter.unusedSimpArgs false
set_option maxRecDepth 100000
set_option maxHeartbeats 16000000
namespace Go.Proofs.YtdoacbdkbbpamaaGreatDoor
section
/- Inverses modulo a number. Plain Lean. -/
def invN (a m:Nat):Nat:=((bz m a m).1%(m:Int)).toNat
theorem invN_lt (a m:Nat) (h:0<m):invN a m<m:=by
 unfold invN;have h1:=Int.emod_lt_of_pos (bz m a m).1 (show (0:Int)<(m:Int) by omega);have h2:=Int.emod_nonneg (bz m a m).1 (show (m:Int)≠0 by omega);omega
theorem mul_mod_of_bez (a m z:Nat) (x y:Int) (h:0<m) (hb:(a:Int)*x+(m:Int)*y=1) (hz:(z:Int)%(m:Int)=x%(m:Int)):a*z%m=1%m:=by
 have h1:((a*z:Nat):Int)%(m:Int)=1%(m:Int):=by
  rw [Int.natCast_mul,Int.mul_emod,hz,←Int.mul_emod];have:(a:Int)*x=1-(m:Int)*y:=by omega
  rw [this,Int.sub_mul_emod_self_left]
 have h2:((a*z%m:Nat):Int)=((1%m:Nat):Int):=by
  rw [Int.natCast_emod,h1];rfl
 exact Int.ofNat_inj.1 h2
theorem invN_spec (a m:Nat) (h:0<m) (hg:Nat.gcd a m=1):a*invN a m%m=1%m:=by
 have hb:=(bz_spec m a m (Nat.le_refl _)).1;rw [hg] at hb;refine mul_mod_of_bez a m _ _ _ h hb ?_;unfold invN;have h2:=Int.emod_nonneg (bz m a m).1 (show (m:Int)≠0 by omega);rw [Int.toNat_of_nonneg h2,Int.emod_emod_of_dvd _ (Int.dvd_refl _)]
theorem inv_unique (a m z z':Nat) (h1:a*z%m=1%m) (h2:a*z'%m=1%m) (hz:z<m) (hz':z'<m):z=z':=by
 have e:z*(a*z')%m=z'*(a*z)%m:=by
  congr 1
  rw [←Nat.mul_assoc,←Nat.mul_assoc,Nat.mul_comm z a,Nat.mul_comm z' a,Nat.mul_assoc,Nat.mul_assoc,Nat.mul_comm z z']
 rw [Nat.mul_mod,h2,Nat.mul_mod z' (a*z),h1,←Nat.mul_mod,←Nat.mul_mod,Nat.mul_one,Nat.mul_one,Nat.mod_eq_of_lt hz,Nat.mod_eq_of_lt hz'] at e;exact e
theorem inv_eq (a m z:Nat) (h:0<m) (hg:Nat.gcd a m=1) (hz:z<m) (h1:a*z%m=1%m):z=invN a m:=
 inv_unique a m z _ h1 (invN_spec a m h hg) hz (invN_lt a m h)
end
section
/- Groups,their elements,products of powers and the extended algorithm of Euclid,in plain Lean. -/
def grpE (p q:Nat):Nat:=if q=0 then (if p%2=1∧8<p then 0 else 13) else (if 2≤p∧2≤q∧(p-1)%q=0 then 0 else 13)
def hasB (p q x:Nat):Bool:=if q=0 then decide (x≠0∧x<p∧Nat.gcd x p=1) else decide (x≠0∧x<p∧x^q%p=1%p)
theorem grp_gt {p q:Nat} (h:grpE p q=0):2≤p:=by
 unfold grpE at h;by_cases hq:q=0
 ·rw [if_pos hq] at h;by_cases h2:p%2=1∧8<p
  ·omega
  ·rw [if_neg h2] at h;omega
 ·rw [if_neg hq] at h;by_cases h2:2≤p∧2≤q∧(p-1)%q=0
  ·exact h2.1
  ·rw [if_neg h2] at h;omega
theorem pow_one_coprime (x q p:Nat) (hq:0<q) (h:x^q%p=1):Nat.gcd x p=1:=by
 have h1:Nat.gcd x p∣x^q:=Nat.dvd_trans (Nat.gcd_dvd_left x p) (by obtain ⟨k,rfl⟩:∃k,q=k+1:=⟨q-1,by omega⟩;rw [Nat.pow_succ];exact Nat.dvd_mul_left _ _);have h2:Nat.gcd x p∣x^q%p:=(Nat.dvd_mod_iff (Nat.gcd_dvd_right x p)).2 h1;rw [h] at h2;exact Nat.dvd_one.1 h2
theorem has_coprime {p q x:Nat} (hp:2≤p) (h:hasB p q x=true):Nat.gcd x p=1:=by
 unfold hasB at h;by_cases hq:q=0
 ·rw [if_pos hq,decide_eq_true_iff] at h;exact h.2.2
 ·rw [if_neg hq,decide_eq_true_iff] at h;exact pow_one_coprime x q p (by omega) (by rw [h.2.2,Nat.mod_eq_of_lt (by omega)])
theorem has_lt {p q x:Nat} (h:hasB p q x=true):x<p:=by
 unfold hasB at h;by_cases hq:q=0
 ·rw [if_pos hq,decide_eq_true_iff] at h;exact h.2.1
 ·rw [if_neg hq,decide_eq_true_iff] at h;exact h.2.1
def pw:List (Nat × Nat)→Nat→Nat
 | [],_=>1
 | (x,e) :: t,b=>x^(e / 2^b)*pw t b
def pb:List (Nat × Nat)→Nat→Nat
 | [],_=>1
 | (x,e) :: t,b=>(if bitB e b then x else 1)*pb t b
theorem pw_step:∀(l:List (Nat × Nat)) (b:Nat),pw l (b+1)*pw l (b+1)*pb l b=pw l b
 | [],b=>rfl
 | (x,e) :: t,b=>by
  have ih:=pw_step t b
  have h:x^(e / 2^(b+1))*x^(e / 2^(b+1))*(if bitB e b then x else 1)=x^(e / 2^b):=by
   cases hb:bitB e b
   ·rw [bit_nil hb];generalize e / 2^(b+1)=k;rw [Nat.two_mul,Nat.pow_add];simp
   ·rw [bit_one hb];generalize e / 2^(b+1)=k;rw [Nat.pow_succ,Nat.two_mul,Nat.pow_add];simp
  show x^(e / 2^(b+1))*pw t (b+1)*(x^(e / 2^(b+1))*pw t (b+1))*((if bitB e b then x else 1)*pb t b)=x^(e / 2^b)*pw t b;rw [←ih,←h];ac_rfl
theorem pb_snoc:∀(l:List (Nat × Nat)) (x e b:Nat),pb (l++[(x,e)]) b=pb l b*(if bitB e b then x else 1)
 | [],x,e,b=>by show _*1=1*_;rw [Nat.one_mul,Nat.mul_one]
 | (y,f) :: t,x,e,b=>by
  show _*pb (t++[(x,e)]) b=_*pb t b*_;rw [pb_snoc t x e b,Nat.mul_assoc]
theorem pw_top:∀(l:List (Nat × Nat)) (b:Nat),(∀z∈l,z.2<2^b)→pw l b=1
 | [],b,_=>rfl
 | (x,e) :: t,b,h=>by
  have h1:=h (x,e) (List.mem_cons_self ..);show x^(e / 2^b)*pw t b=1;rw [Nat.div_eq_of_lt h1,pw_top t b (fun z hz=>h z (List.mem_cons_of_mem _ hz))];rfl
structure Ext (a b r0 r1:Nat) (x0 x1 y0 y1:Int) (u0 u1 v0 v1:Nat) (s:Int):Prop where
 hs:s=1∨s=-1
 hx0:x0=s*u0
 hx1:x1=-s*u1
 hy0:y0=-s*v0
 hy1:y1=s*v1
 bu:u0*r1+u1*r0=b
 av:v0*r1+v1*r0=a
 e0:a*x0+b*y0=r0
 e1:a*x1+b*y1=r1
 g:Nat.gcd r0 r1=Nat.gcd a b
 mono:(s=1∧u0=1∧u1=0∧r1=b∧v0=0∧v1=1)∨(u0≤u1∧r1<r0)
theorem Ext.start (a b:Nat):Ext a b a b 1 0 0 1 1 0 0 1 1:=
 ⟨.inl rfl,by simp,by simp,by simp,by simp,by simp,by simp,by simp,by simp,rfl,.inl ⟨rfl,rfl,rfl,rfl,rfl,rfl⟩⟩
theorem Ext.step {a b r0 r1:Nat} {x0 x1 y0 y1:Int} {u0 u1 v0 v1:Nat} {s:Int} (h:Ext a b r0 r1 x0 x1 y0 y1 u0 u1 v0 v1 s) (h1:0<r1) :
  Ext a b r1 (r0%r1) x1 (x0-(r0 / r1:Nat)*x1) y1 (y0-(r0 / r1:Nat)*y1) u1 (u0+r0 / r1*u1) v1 (v0+r0 / r1*v1) (-s):=by
 have hd:=Nat.div_add_mod r0 r1;have hlt:=Nat.mod_lt r0 h1;generalize hq:r0 / r1=q at hd ⊢;generalize hr:r0%r1=r at hd hlt ⊢;have hdi:(r1:Int)*q+r=r0:=by rw [←hd];push_cast;rfl
 refine ⟨?_,?_,?_,?_,?_,?_,?_,?_,?_,?_,?_⟩
 ·rcases h.hs with e | e <;> omega
 ·rw [h.hx1]
 ·rw [h.hx0,h.hx1];push_cast;grind
 ·rw [h.hy1];simp
 ·rw [h.hy0,h.hy1];push_cast;grind
 ·have:=h.bu;rw [←hd] at this;rw [←this];grind
 ·have:=h.av;rw [←hd] at this;rw [←this];grind
 ·exact h.e1
 ·have e0:=h.e0;have e1:=h.e1;have:(r:Int)=r0-r1*q:=by omega
  rw [this,←e0,←e1];grind
 ·rw [←h.g,←hr,Nat.gcd_comm r0 r1,Nat.gcd_rec r1 r0,Nat.gcd_comm]
 ·refine .inr ⟨?_,hlt⟩;rcases h.mono with ⟨_,e0,e1,_⟩ | ⟨hu,hlt2⟩
  ·omega
  ·have:1≤q:=by rw [←hq];exact Nat.div_pos (Nat.le_of_lt hlt2) h1
   have:1*u1≤q*u1:=Nat.mul_le_mul_right _ this;omega
theorem Ext.xle {a b r0 r1:Nat} {x0 x1 y0 y1:Int} {u0 u1 v0 v1:Nat} {s:Int} (h:Ext a b r0 r1 x0 x1 y0 y1 u0 u1 v0 v1 s) :
  x0.natAbs=u0∧x1.natAbs=u1∧y0.natAbs=v0∧y1.natAbs=v1:=by
 rcases h.hs with rfl | rfl <;> (rw [h.hx0,h.hx1,h.hy0,h.hy1];omega)
theorem Ext.bounds {a b r0 r1:Nat} {x0 x1 y0 y1:Int} {u0 u1 v0 v1:Nat} {s:Int} (h:Ext a b r0 r1 x0 x1 y0 y1 u0 u1 v0 v1 s) (h0:0<r1) :
  u0≤b∧v0≤a∧(r1≤r0→u1≤b∧v1≤a):=by
 have e1:=h.bu;have e2:=h.av;have k1:u0*1≤u0*r1:=Nat.mul_le_mul_left _ h0;have k2:v0*1≤v0*r1:=Nat.mul_le_mul_left _ h0;refine ⟨by omega,by omega,fun hr=>?_⟩;have k3:u1*1≤u1*r0:=Nat.mul_le_mul_left _ (by omega);have k4:v1*1≤v1*r0:=Nat.mul_le_mul_left _ (by omega);omega
end
end Go.Proofs.YtdoacbdkbbpamaaGreatDoor
