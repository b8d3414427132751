import Derived.Test.YtdoacbdkbbpamaaGreatDoorRInt5
import Derived.Test.YtdoacbdkbbpamaaGreatDoorLag
set_option linter.unusedVariables false
set_option linter.unusedSimpArgs false
set_option maxRecDepth 100000
set_option maxHeartbeats 16000000
namespace Go.Proofs.YtdoacbdkbbpamaaGreatDoor
section
/- Inverses modulo a number. Plain Lean. -/
def invN (a m:Nat):Nat:=((bz m a m).1%(m:Int)).toNat
theorem invN_lt (a m:Nat) (h:0<m):invN a m<m:=by
 unfold invN;have h1:=Int.emod_lt_of_pos (bz m a m).1 (show (0:Int)<(m:Int) by omega);have h2:=Int.emod_nonneg (bz m a m).1 (show (m:Int)≠0 by omega);omega
theorem mul_mod_of_bez (a m z:Nat) (x y:Int) (h:0<m) (hb:(a:Int)*x+(m:Int)*y=1) (hz:(z:Int)%(m:Int)=x%(m:Int)):a*z%m=1%m:=by
 have h1:((a*z:Nat):Int)%(m:Int)=1%(m:Int):=by
  rw [Int.natCast_mul,Int.mul_emod,hz,←Int.mul_emod];have:(a:Int)*x=1-(m:Int)*y:=by omega
  rw [this,Int.sub_mul_emod_self_left]
 have h2:((a*z%m:Nat):Int)=((1%m:Nat):Int):=by
  rw [Int.natCast_emod,h1];rfl
 exact Int.ofNat_inj.1 h2
theorem invN_spec (a m:Nat) (h:0<m) (hg:Nat.gcd a m=1):a*invN a m%m=1%m:=by
 have hb:=(bz_spec m a m (Nat.le_refl _)).1;rw [hg] at hb;refine mul_mod_of_bez a m _ _ _ h hb ?_;unfold invN;have h2:=Int.emod_nonneg (bz m a m).1 (show (m:Int)≠0 by omega);rw [Int.toNat_of_nonneg h2,Int.emod_emod_of_dvd _ (Int.dvd_refl _)]
theorem inv_unique (a m z z':Nat) (h1:a*z%m=1%m) (h2:a*z'%m=1%m) (hz:z<m) (hz':z'<m):z=z':=by
 have e:z*(a*z')%m=z'*(a*z)%m:=by
  congr 1
  rw [←Nat.mul_assoc,←Nat.mul_assoc,Nat.mul_comm z a,Nat.mul_comm z' a,Nat.mul_assoc,Nat.mul_assoc,Nat.mul_comm z z']
 rw [Nat.mul_mod,h2,Nat.mul_mod z' (a*z),h1,←Nat.mul_mod,←Nat.mul_mod,Nat.mul_one,Nat.mul_one,Nat.mod_eq_of_lt hz,Nat.mod_eq_of_lt hz'] at e;exact e
theorem inv_eq (a m z:Nat) (h:0<m) (hg:Nat.gcd a m=1) (hz:z<m) (h1:a*z%m=1%m):z=invN a m:=
 inv_unique a m z _ h1 (invN_spec a m h hg) hz (invN_lt a m h)
end
section
/- Groups,their elements,products of powers and the extended algorithm of Euclid,in plain Lean. -/
def grpE (p q:Nat):Nat:=if q=0 then (if p%2=1∧8<p then 0 else 13) else (if 2≤p∧2≤q∧(p-1)%q=0 then 0 else 13)
def hasB (p q x:Nat):Bool:=if q=0 then decide (x≠0∧x<p∧Nat.gcd x p=1) else decide (x≠0∧x<p∧x^q%p=1%p)
theorem grp_gt {p q:Nat} (h:grpE p q=0):2≤p:=by
 unfold grpE at h;by_cases hq:q=0
 ·rw [if_pos hq] at h;by_cases h2:p%2=1∧8<p
  ·omega
  ·rw [if_neg h2] at h;omega
 ·rw [if_neg hq] at h;by_cases h2:2≤p∧2≤q∧(p-1)%q=0
  ·exact h2.1
  ·rw [if_neg h2] at h;omega
theorem pow_one_coprime (x q p:Nat) (hq:0<q) (h:x^q%p=1):Nat.gcd x p=1:=by
 have h1:Nat.gcd x p∣x^q:=Nat.dvd_trans (Nat.gcd_dvd_left x p) (by obtain ⟨k,rfl⟩:∃k,q=k+1:=⟨q-1,by omega⟩;rw [Nat.pow_succ];exact Nat.dvd_mul_left _ _);have h2:Nat.gcd x p∣x^q%p:=(Nat.dvd_mod_iff (Nat.gcd_dvd_right x p)).2 h1;rw [h] at h2;exact Nat.dvd_one.1 h2
theorem has_coprime {p q x:Nat} (hp:2≤p) (h:hasB p q x=true):Nat.gcd x p=1:=by
 unfold hasB at h;by_cases hq:q=0
 ·rw [if_pos hq,decide_eq_true_iff] at h;exact h.2.2
 ·rw [if_neg hq,decide_eq_true_iff] at h;exact pow_one_coprime x q p (by omega) (by rw [h.2.2,Nat.mod_eq_of_lt (by omega)])
theorem has_lt {p q x:Nat} (h:hasB p q x=true):x<p:=by
 unfold hasB at h;by_cases hq:q=0
 ·rw [if_pos hq,decide_eq_true_iff] at h;exact h.2.1
 ·rw [if_neg hq,decide_eq_true_iff] at h;exact h.2.1
def pw:List (Nat × Nat)→Nat→Nat
 | [],_=>1
 | (x,e) :: t,b=>x^(e / 2^b)*pw t b
def pb:List (Nat × Nat)→Nat→Nat
 | [],_=>1
 | (x,e) :: t,b=>(if bitB e b then x else 1)*pb t b
theorem pw_step:∀(l:List (Nat × Nat)) (b:Nat),pw l (b+1)*pw l (b+1)*pb l b=pw l b
 | [],b=>rfl
 | (x,e) :: t,b=>by
  have ih:=pw_step t b
  have h:x^(e / 2^(b+1))*x^(e / 2^(b+1))*(if bitB e b then x else 1)=x^(e / 2^b):=by
   cases hb:bitB e b
   ·rw [bit_nil hb];generalize e / 2^(b+1)=k;rw [Nat.two_mul,Nat.pow_add];simp
   ·rw [bit_one hb];generalize e / 2^(b+1)=k;rw [Nat.pow_succ,Nat.two_mul,Nat.pow_add];simp
  show x^(e / 2^(b+1))*pw t (b+1)*(x^(e / 2^(b+1))*pw t (b+1))*((if bitB e b then x else 1)*pb t b)=x^(e / 2^b)*pw t b;rw [←ih,←h];ac_rfl
theorem pb_snoc:∀(l:List (Nat × Nat)) (x e b:Nat),pb (l++[(x,e)]) b=pb l b*(if bitB e b then x else 1)
 | [],x,e,b=>by show _*1=1*_;rw [Nat.one_mul,Nat.mul_one]
 | (y,f) :: t,x,e,b=>by
  show _*pb (t++[(x,e)]) b=_*pb t b*_;rw [pb_snoc t x e b,Nat.mul_assoc]
theorem pw_top:∀(l:List (Nat × Nat)) (b:Nat),(∀z∈l,z.2<2^b)→pw l b=1
 | [],b,_=>rfl
 | (x,e) :: t,b,h=>by
  have h1:=h (x,e) (List.mem_cons_self ..);show x^(e / 2^b)*pw t b=1;rw [Nat.div_eq_of_lt h1,pw_top t b (fun z hz=>h z (List.mem_cons_of_mem _ hz))];rfl
structure Ext (a b r0 r1:Nat) (x0 x1 y0 y1:Int) (u0 u1 v0 v1:Nat) (s:Int):Prop where
 hs:s=1∨s=-1
 hx0:x0=s*u0
 hx1:x1=-s*u1
 hy0:y0=-s*v0
 hy1:y1=s*v1
 bu:u0*r1+u1*r0=b
 av:v0*r1+v1*r0=a
 e0:a*x0+b*y0=r0
 e1:a*x1+b*y1=r1
 g:Nat.gcd r0 r1=Nat.gcd a b
 mono:(s=1∧u0=1∧u1=0∧r1=b∧v0=0∧v1=1)∨(u0≤u1∧r1<r0)
theorem Ext.start (a b:Nat):Ext a b a b 1 0 0 1 1 0 0 1 1:=
 ⟨.inl rfl,by simp,by simp,by simp,by simp,by simp,by simp,by simp,by simp,rfl,.inl ⟨rfl,rfl,rfl,rfl,rfl,rfl⟩⟩
theorem Ext.step {a b r0 r1:Nat} {x0 x1 y0 y1:Int} {u0 u1 v0 v1:Nat} {s:Int} (h:Ext a b r0 r1 x0 x1 y0 y1 u0 u1 v0 v1 s) (h1:0<r1) :
  Ext a b r1 (r0%r1) x1 (x0-(r0 / r1:Nat)*x1) y1 (y0-(r0 / r1:Nat)*y1) u1 (u0+r0 / r1*u1) v1 (v0+r0 / r1*v1) (-s):=by
 have hd:=Nat.div_add_mod r0 r1;have hlt:=Nat.mod_lt r0 h1;generalize hq:r0 / r1=q at hd ⊢;generalize hr:r0%r1=r at hd hlt ⊢;have hdi:(r1:Int)*q+r=r0:=by rw [←hd];push_cast;rfl
 refine ⟨?_,?_,?_,?_,?_,?_,?_,?_,?_,?_,?_⟩
 ·rcases h.hs with e | e <;> omega
 ·rw [h.hx1]
 ·rw [h.hx0,h.hx1];push_cast;grind
 ·rw [h.hy1];simp
 ·rw [h.hy0,h.hy1];push_cast;grind
 ·have:=h.bu;rw [←hd] at this;rw [←this];grind
 ·have:=h.av;rw [←hd] at this;rw [←this];grind
 ·exact h.e1
 ·have e0:=h.e0;have e1:=h.e1;have:(r:Int)=r0-r1*q:=by omega
  rw [this,←e0,←e1];grind
 ·rw [←h.g,←hr,Nat.gcd_comm r0 r1,Nat.gcd_rec r1 r0,Nat.gcd_comm]
 ·refine .inr ⟨?_,hlt⟩;rcases h.mono with ⟨_,e0,e1,_⟩ | ⟨hu,hlt2⟩
  ·omega
  ·have:1≤q:=by rw [←hq];exact Nat.div_pos (Nat.le_of_lt hlt2) h1
   have:1*u1≤q*u1:=Nat.mul_le_mul_right _ this;omega
theorem Ext.xle {a b r0 r1:Nat} {x0 x1 y0 y1:Int} {u0 u1 v0 v1:Nat} {s:Int} (h:Ext a b r0 r1 x0 x1 y0 y1 u0 u1 v0 v1 s) :
  x0.natAbs=u0∧x1.natAbs=u1∧y0.natAbs=v0∧y1.natAbs=v1:=by
 rcases h.hs with rfl | rfl <;> (rw [h.hx0,h.hx1,h.hy0,h.hy1];omega)
theorem Ext.bounds {a b r0 r1:Nat} {x0 x1 y0 y1:Int} {u0 u1 v0 v1:Nat} {s:Int} (h:Ext a b r0 r1 x0 x1 y0 y1 u0 u1 v0 v1 s) (h0:0<r1) :
  u0≤b∧v0≤a∧(r1≤r0→u1≤b∧v1≤a):=by
 have e1:=h.bu;have e2:=h.av;have k1:u0*1≤u0*r1:=Nat.mul_le_mul_left _ h0;have k2:v0*1≤v0*r1:=Nat.mul_le_mul_left _ h0;refine ⟨by omega,by omega,fun hr=>?_⟩;have k3:u1*1≤u1*r0:=Nat.mul_le_mul_left _ (by omega);have k4:v1*1≤v1*r0:=Nat.mul_le_mul_left _ (by omega);omega
end
section
open Go.RowKit
theorem ridivmodP_c (z:Int) (m:Nat) (w:World) (hz:z.natAbs<256^128) (hm:m<256^128) (h0:0<m) (q:Int) (r:Nat) (hq:z / (m:Int)=q) (hr:(z%(m:Int)).toNat=r) :
  Calls Tryz.prog 43 #[.agg #[.bool (sg (z)),.string (E (z).natAbs)],.agg #[.bool (sg (m:Int)),.string (E m)]] w fun e w'=>e=.returned (.tuple #[.agg #[.bool (sg (q)),.string (E (q).natAbs)],.string (E r),.int .i64 0])∧Below w.heap.size w w':=by
 have:=ridivmod_c z m w hz hm h0;rw [hq,hr] at this;exact this
theorem rimulR_c (q:Int) (n:Nat) (w:World) (hq:q.natAbs<256^128) (hn:n<256^128) (hxy:q.natAbs*n<256^128) (p:Int) (hp:q*(n:Int)=p) :
  Calls Tryz.prog 92 #[.agg #[.bool (sg (q)),.string (E (q).natAbs)],.agg #[.bool (sg (n:Int)),.string (E n)]] w fun e w'=>e=.returned (.tuple #[.agg #[.bool (sg (p)),.string (E (p).natAbs)],.int .i64 0])∧Below w.heap.size w w':=by
 have:=rimul_c q (n:Int) w hq (by simpa using hn) (by simpa using hxy);rw [Int.natAbs_natCast,hp] at this;exact this
theorem Boxes.setY {w wx:World} {bx b2:Nat} {x y z:Int} (h:Boxes w bx b2 x y wx) (h1:w.heap.size+1<b2) (h2:bx≠b2):Boxes w bx b2 x z ((wx.setCell ⟨b2,0,none⟩ (.bool (sg z))).setCell ⟨b2,1,none⟩ (.string (E z.natAbs))):=
 ⟨(h.r1.other _ _ (by simp;omega)).other _ _ (by simp;omega),(h.r2.other _ _ (by simp;omega)).other _ _ (by simp;omega),(h.x.other _ _ h2).other _ _ h2,(h.y.set 0 _).set 1 _,(h.below.setCell (by simp;omega) _).setCell (by simp;omega) _⟩
theorem rext_body (a b g m k:Nat) (x y q p:Int) (r:Nat) (w:World) (ha:a<256^128) (hb:b<256^128) (h0:0<b) (hg0:0<g) (hg:g<256^128)
  (hm:b / g=m) (hk:a / g=k) (hm0:0<m) (hmb:m<256^128) (hkb:k<256^128) (hx:x.natAbs<256^128) (hy:y.natAbs<256^128)
  (hq:x / (m:Int)=q) (hr:(x%(m:Int)).toNat=r) (hqb:q.natAbs<256^128) (hqk:q.natAbs*k<256^128) (hp:q*(k:Int)=p) (hpb:p.natAbs<256^128) (hyp:(y+p).natAbs<256^128) (hrb:r<256^128)
  (hbz:∀w,Calls Tryz.prog 218 #[.string (E a),.string (E b)] w fun e w'=>e=.returned (.tuple #[.string (E g),.agg #[.bool (sg (x)),.string (E (x).natAbs)],.agg #[.bool (sg (y)),.string (E (y).natAbs)]])∧Below w.heap.size w w') :
  Calls Tryz.prog 207 #[.string (E a),.string (E b)] w fun e w'=>e=.returned (.tuple #[.string (E g),.agg #[.bool (sg (r:Int)),.string (E r)],.agg #[.bool (sg (y+p)),.string (E (y+p).natAbs)],.int .i64 0])∧Below w.heap.size w w':=by
 have HA:=Lib.hid ha;have HB:=Lib.hid hb;have HG0:=Lib.hid hg0;have HG:=Lib.hid hg;have HM0:=Lib.hid hm0;have HMB:=Lib.hid hmb;have HKB:=Lib.hid hkb;have HX:=Lib.hid hx;have HY:=Lib.hid hy;have HQ:=Lib.hid hq;have HR:=Lib.hid hr;have HQB:=Lib.hid hqb;have HQK:=Lib.hid hqk;have HP:=Lib.hid hp;have HPB:=Lib.hid hpb;have HYP:=Lib.hid hyp;have HRB:=Lib.hid hrb;have HBZ:=Lib.hid hbz;have HM:=Lib.hid hm;have HK:=Lib.hid hk;have hz:=nzE h0;clear ha hb h0 hg0 hg hm0 hmb hkb hx hy hq hr hqb hqk hp hpb hyp hrb hbz hm hk;have hA:=blk2a w #[Value.bool false,Value.string { data:=#[] }] #[Value.bool false,Value.string { data:=#[] }] 37 37;have hB:=blk2b w #[Value.bool false,Value.string { data:=#[] }] #[Value.bool false,Value.string { data:=#[] }] 37 37;go_enter Tryz.func207,Tryz.ntmps207
 go_wp2_with fail
 refine (rvalidE_c a _ HA.out).mono ?_;rintro e w' ⟨rfl,rfl⟩;go_wp2_with fail
 refine (rvalidE_c b _ HB.out).mono ?_;rintro e w' ⟨rfl,rfl⟩;go_wp2_with fail
 refine (HBZ.out _).mono ?_;rintro e w1 ⟨rfl,hb1⟩;replace hA:=hA.after hb1;replace hB:=hB.after hb1;have hl1:w.heap.size+1<w1.heap.size:=hB.lt;go_wp2_with fail
 have hbox:Boxes w w1.heap.size (w1.heap.size+1) x y ((w1.alloc (.cells #[.bool (sg x),.string (E x.natAbs)] 37)).alloc (.cells #[.bool (sg y),.string (E y.natAbs)] 37)):=
  ⟨(hA.alloc _).alloc _,(hB.alloc _).alloc _,blk2a _ _ _ _ _,blk2b _ _ _ _ _,ba (ba (bt (b2 _ _ _) hb1) _) _⟩
 generalize ((w1.alloc (.cells #[.bool (sg x),.string (E x.natAbs)] 37)).alloc (.cells #[.bool (sg y),.string (E y.natAbs)] 37))=w2 at hbox;obtain ⟨bx,hbx⟩:∃bx,w1.heap.size=bx:=⟨_,rfl⟩;rw [hbx] at hbox hl1 ⊢;clear hbx hA hB;refine (rdivmod_c b g _ HB.out HG.out HG0.out).mono ?_;rintro e w3 ⟨rfl,hb3⟩;replace hbox:=hbox.after hb3;rw [HM.out];go_wp2_with fail
 refine (rdivmod_c a g _ HA.out HG.out HG0.out).mono ?_;rintro e w4 ⟨rfl,hb4⟩;replace hbox:=hbox.after hb4;rw [HK.out];go_upto_region 8 with fail
 have hX:=hbox.x;obtain ⟨hXc0,hXf0,hXc1,hXf1⟩:=hX.x2;have hl4:bx+1<w4.heap.size:=hbox.y.lt;have hl4x:bx<w4.heap.size:=hbox.x.lt;go_cut [17,18] (fun s17 s18 wx=>s18=.string (E r)∧PBox w bx (bx+1) x y q s17 wx)
 case first =>
  go_region_with (first | (go_at_call 44;refine (rifromS_c m _ HMB.out).mono ?_;rintro e wf ⟨rfl,hbf⟩;have hboxf:Boxes w bx (bx+1) x y wf:=(by first | exact hbox.drew.after hbf | exact (hbox.alloc _).drew.after hbf);have yf0:=hboxf.x.cell 0;have yf1:=hboxf.x.cell 1;have hlf:bx+1<wf.heap.size:=hboxf.y.lt;have hlfx:bx<wf.heap.size:=hboxf.x.lt) | (go_at_call 43;refine (ridivmodP_c x m _ HX.out HMB.out HM0.out q r HQ.out HR.out).mono ?_;rintro e wd ⟨rfl,hbd⟩;have hboxd:Boxes w bx (bx+1) x y wd:=(by first | exact hboxf.after hbd | exact (hboxf.alloc _).after hbd);(try (have kA:=((Blk.new w4 #[Value.bool false,Value.string { data:=#[] }] 37).drew.after hbf).after hbd;have kA0:=kA.cell 0;have kA1:=kA.cell 1;have kA2:=kA.free 0;have kA3:=kA.free 1));(try (have kB:=(Blk.new wf #[Value.bool false,Value.string { data:=#[] }] 37).after hbd;have kB0:=kB.cell 0;have kB1:=kB.cell 1;have kB2:=kB.free 0;have kB3:=kB.free 1))))
  all_goals
   go_wp2_with fail
   go_meet
   refine ⟨rfl,?_⟩;first | exact PBox.of_alloc hboxd | exact PBox.of_set hboxd kA (by have:=hbox.r2.lt;omega) (by omega) (by omega) | exact PBox.of_set hboxd kB (by have:=hboxf.r2.lt;omega) (by omega) (by omega)
 case rest =>
  obtain ⟨rfl,gq,rfl,hQ,hg1,hg2,hg3,hbox5⟩:=hcut;clear hXc0 hXf0 hXc1 hXf1;clear hX;obtain ⟨hQc0,hQf0,hQc1,hQf1⟩:=hQ.x2;have hl5:bx+1<wc.heap.size:=hbox5.y.lt;have hl5q:gq<wc.heap.size:=hQ.lt;obtain ⟨wq,hwq⟩:∃wq,wq=wc:=⟨_,rfl⟩;subst hwq;go_upto_region 9 with fail
  go_cut [20] (fun s20 wx=>PBox w bx (bx+1) x y p s20 wx)
  case first =>
   go_region_with (first | (go_at_call 44;refine (rifromS_c k _ HKB.out).mono ?_;rintro e wf ⟨rfl,hbf⟩;have hQf:Blk wf gq 37 [Value.bool (sg q),Value.string (E q.natAbs)]:=(by first | exact hQ.drew.after hbf | exact (hQ.alloc _).drew.after hbf);have hboxf:Boxes w bx (bx+1) x y wf:=(by first | exact hbox5.drew.after hbf | exact (hbox5.alloc _).drew.after hbf);have yf0:=hQf.cell 0;have yf1:=hQf.cell 1;have hlf:bx+1<wf.heap.size:=hboxf.y.lt;have hlfq:gq<wf.heap.size:=hQf.lt) | (go_at_call 92;refine (rimulR_c q k _ HQB.out HKB.out HQK.out p HP.out).mono ?_;rintro e wd ⟨rfl,hbd⟩;have hboxd:Boxes w bx (bx+1) x y wd:=(by first | exact hboxf.after hbd | exact (hboxf.alloc _).after hbd);(try (have kA:=((Blk.new wq #[Value.bool false,Value.string { data:=#[] }] 37).drew.after hbf).after hbd;have kA0:=kA.cell 0;have kA1:=kA.cell 1;have kA2:=kA.free 0;have kA3:=kA.free 1));(try (have kB:=(Blk.new wf #[Value.bool false,Value.string { data:=#[] }] 37).after hbd;have kB0:=kB.cell 0;have kB1:=kB.cell 1;have kB2:=kB.free 0;have kB3:=kB.free 1))))
   all_goals
    go_wp2_with fail
    go_meet
    first | exact PBox.of_alloc hboxd | exact PBox.of_set hboxd kA (by have:=hbox5.r2.lt;omega) (by omega) (by omega) | exact PBox.of_set hboxd kB (by have:=hboxf.r2.lt;omega) (by omega) (by omega)
  case rest =>
   obtain ⟨gp,rfl,hP,hh1,hh2,hh3,hbox6⟩:=hcut;have hY:=hbox6.y;obtain ⟨hYc0,hYf0,hYc1,hYf1⟩:=hY.x2;obtain ⟨hPc0,hPf0,hPc1,hPf1⟩:=hP.x2;go_wp2_with fail
   refine (riadd_c y p _ HY.out HPB.out HYP.out).mono ?_;rintro e w6 ⟨rfl,hb6⟩;clear hYc0 hYf0 hYc1 hYf1;clear hPc0 hPf0 hPc1 hPf1;have hbox7:=hbox6.after hb6;have hY7:=hbox7.y;obtain ⟨hY7c0,hY7f0,hY7c1,hY7f1⟩:=hY7.x2;go_wp2_with fail
   have hbox8:=hbox7.setY (z:=y+p) (by omega) (by omega);clear hY7c0 hY7f0 hY7c1 hY7f1;clear hY7 hY;generalize ((w6.setCell ⟨bx+1,0,none⟩ (.bool (sg (y+p)))).setCell ⟨bx+1,1,none⟩ (.string (E (y+p).natAbs)))=w8 at hbox8;have hY:=hbox8.y;have hR1:=hbox8.r1;have hR2:=hbox8.r2;obtain ⟨hYc0,hYf0,hYc1,hYf1⟩:=hY.x2;obtain ⟨hR1c0,hR1f0,hR1c1,hR1f1⟩:=hR1.x2;obtain ⟨hR2c0,hR2f0,hR2c1,hR2f1⟩:=hR2.x2;have hlr:w.heap.size+1<bx:=hl1;go_region_with (first | (go_at_call 44;refine (rifromS_c r _ HRB.out).mono ?_;rintro e wf ⟨rfl,hbf⟩;have hboxf:Boxes w bx (bx+1) x (y+p) wf:=(by exact hbox8.drew.after hbf);have yf0:=hboxf.y.cell 0;have yf1:=hboxf.y.cell 1;have rf0:=hboxf.r1.cell 0;have rf1:=hboxf.r1.cell 1;have sf0:=hboxf.r2.cell 0;have sf1:=hboxf.r2.cell 1;have tf0:=hboxf.r1.free 0;have tf1:=hboxf.r1.free 1;have vf0:=hboxf.r2.free 0;have vf1:=hboxf.r2.free 1))
   all_goals go_wp2
   all_goals
    refine bodyPost_ret (v:=.tuple #[.string (E g),.agg #[.bool (sg (r:Int)),.string (E r)],.agg #[.bool (sg (y+p)),.string (E (y+p).natAbs)],.int .i64 0]) ?_ rfl ⟨rfl,?_⟩
    ·simp [results,Tryz.results207,go_sem,yf0,yf1,rf0,rf1,sf0,sf1]
    ·repeat (first | exact hboxf.below | (refine Below.drew ?_) | (refine Below.setCell ?_ (by first | omega | (dsimp only;omega) | (simp;done)) _))
def invR (a b:Nat):Nat:=((bz b a b).1%((b / Nat.gcd a b:Nat):Int)).toNat
def extY (a b:Nat):Int:=(bz b a b).2+(bz b a b).1 / ((b / Nat.gcd a b:Nat):Int)*((a / Nat.gcd a b:Nat):Int)
theorem natAbs_ediv_le (z:Int) (m:Nat):(z / (m:Int)).natAbs≤z.natAbs:=Int.natAbs_ediv_le_natAbs z m
theorem rext_c (a b:Nat) (w:World) (ha:a<256^32) (hb:b<256^32) (h0:0<b) :
  Calls Tryz.prog 207 #[.string (E a),.string (E b)] w fun e w'=>e=.returned (.tuple #[.string (E (Nat.gcd a b)),.agg #[.bool (sg (invR a b:Int)),.string (E (invR a b))],.agg #[.bool (sg (extY a b)),.string (E (extY a b).natAbs)],.int .i64 0])∧Below w.heap.size w w':=by
 have hg0:0<Nat.gcd a b:=Nat.gcd_pos_of_pos_right a h0;have hgb:Nat.gcd a b≤b:=Nat.gcd_le_right a h0;have hm0:0<b / Nat.gcd a b:=Nat.div_pos hgb hg0;have hmb:b / Nat.gcd a b≤b:=Nat.div_le_self _ _;have hka:a / Nat.gcd a b≤a:=Nat.div_le_self _ _;obtain ⟨_,hx,hy⟩:=bz_spec b a b (Nat.le_refl _);have h32:(256:Nat)^32*256^96=256^128:=by rw [←Nat.pow_add]
 have h96:0<(256:Nat)^96:=Nat.pow_pos (by decide)
 have hsm:∀n,n<256^32→n<256^128:=fun n hn=>by
  have:256^32*1≤(256:Nat)^32*256^96:=Nat.mul_le_mul_left _ h96;omega
 have hq:=natAbs_ediv_le (bz b a b).1 (b / Nat.gcd a b);have hr:=Int.emod_lt_of_pos (bz b a b).1 (show (0:Int)<((b / Nat.gcd a b:Nat):Int) by omega);have hr0:=Int.emod_nonneg (bz b a b).1 (show ((b / Nat.gcd a b:Nat):Int)≠0 by omega);have h1:(1:Nat)<256^32:=by decide
 have hqk:((bz b a b).1 / ((b / Nat.gcd a b:Nat):Int)).natAbs*(a / Nat.gcd a b)<256^64:=by
  have:(256:Nat)^64=256^32*256^32:=by rw [←Nat.pow_add]
  rw [this];exact Nat.mul_lt_mul'' (by omega) (by omega)
 have h64:(256:Nat)^64<256^128:=by decide
 have h65:(256:Nat)^32+256^64<256^128:=by decide
 have hpa:((bz b a b).1 / ((b / Nat.gcd a b:Nat):Int)*((a / Nat.gcd a b:Nat):Int)).natAbs<256^64:=by
  rw [Int.natAbs_mul,Int.natAbs_natCast];exact hqk
 have q1:((bz b a b).1 / ((b / Nat.gcd a b:Nat):Int)).natAbs<256^128:=hsm _ (by omega);have q2:((bz b a b).1%((b / Nat.gcd a b:Nat):Int)).toNat<256^128:=hsm _ (by omega);have q3:(bz b a b).1.natAbs<256^128:=hsm _ (by omega);have q4:(bz b a b).2.natAbs<256^128:=hsm _ (by omega)
 have q5:((bz b a b).2+(bz b a b).1 / ((b / Nat.gcd a b:Nat):Int)*((a / Nat.gcd a b:Nat):Int)).natAbs<256^128:=by
  have:=Int.natAbs_add_le (bz b a b).2 ((bz b a b).1 / ((b / Nat.gcd a b:Nat):Int)*((a / Nat.gcd a b:Nat):Int));omega
 exact rext_body a b (Nat.gcd a b) _ _ (bz b a b).1 (bz b a b).2 _ _ _ w (hsm a ha) (hsm b hb) h0 hg0 (hsm _ (by omega)) rfl rfl hm0 (hsm _ (by omega)) (hsm _ (by omega)) q3 q4 rfl rfl q1 (by omega) rfl (by omega) q5 q2 (fun w=>rbezout_c b a b w (Nat.le_refl _) (hsm a ha) (hsm b hb))
end
section
open Go.RowKit
def subM (a b m:Nat):Nat:=(a%m+m-b%m)%m
theorem rsub3_c (a b m:Nat) (w:World) (ha:a<256^128) (hb:b<256^128) (hm:m<256^64) (h0:0<m) :
  Calls Tryz.prog 39 #[.string (E a),.string (E b),.string (E m)] w fun e w'=>e=.returned (.tuple #[.string (E (subM a b m)),.int .i64 0])∧Below w.heap.size w w':=by
 have HC:=Lib.hid (rcheck_c w.heap.size [a,b] m 31 (w.alloc (.cells #[.string (E a),.string (E b),.string (E m)] 31)) (by simp) (by simp [ha,hb]) (lt64 hm) (Blk.new _ _ _) h0);have hla:=Nat.mod_lt a h0;have hlb:=Nat.mod_lt b h0;have HA:=Lib.hid ha;have HB:=Lib.hid hb;have HM:=Lib.hid (lt64 hm);have H0:=Lib.hid h0;have h64:(256:Nat)^64+256^64<256^128:=by decide
 have H1:=Lib.hid (Nat.lt_trans hla HM.out);have H2:=Lib.hid (show a%m+m<256^128 by omega);have H3:=Lib.hid (show b%m≤a%m+m by omega);have H4:=Lib.hid (show a%m+m-b%m<256^128 by omega);have HS:=Lib.hid (show subM a b m=(a%m+m-b%m)%m from rfl);clear ha hb hm h0 hla hlb h64;go_enter Tryz.func39,Tryz.ntmps39
 go_wp2_with fail
 refine (HC.out).mono ?_;rintro e w' ⟨rfl,rfl⟩;go_wp2_with fail
 refine (rmod3_c a m _ HA.out HM.out H0.out).mono ?_;rintro e w1 ⟨rfl,hb1⟩;go_wp2_with fail
 refine (radd_c (a%m) m _ H1.out HM.out H2.out).mono ?_;rintro e w2 ⟨rfl,hb2⟩;go_wp2_with fail
 refine (rmod3_c b m _ HB.out HM.out H0.out).mono ?_;rintro e w3 ⟨rfl,hb3⟩;go_wp2_with fail
 refine (rsub_c (a%m+m) (b%m) _ H2.out H3.out).mono ?_;rintro e w4 ⟨rfl,hb4⟩;go_wp2_with fail
 refine (rmod3_c (a%m+m-b%m) m _ H4.out HM.out H0.out).mono ?_;rintro e w5 ⟨rfl,hb5⟩;go_wp2;go_ret2
 exact ⟨r2 (vE HS.out.symm) rfl,bt (bt (bt (bt (bt (b1 _ _) hb1) hb2) hb3) hb4) hb5⟩
theorem pow_step0 (a e m i:Nat) (h:bitB e i=false):a^(e / 2^(i+1))%m*(a^(e / 2^(i+1))%m)%m=a^(e / 2^i)%m:=by
 rw [bit_nil h];generalize e / 2^(i+1)=k;rw [Nat.two_mul,Nat.pow_add,←Nat.mul_mod]
theorem pow_step1 (a e m i:Nat) (h:bitB e i=true):a^(e / 2^(i+1))%m*(a^(e / 2^(i+1))%m)%m*a%m=a^(e / 2^i)%m:=by
 rw [bit_one h];generalize e / 2^(i+1)=k;rw [Nat.pow_succ,Nat.two_mul,Nat.pow_add,←Nat.mul_mod,Nat.mod_mul_mod]
theorem rraise_c (a e m:Nat) (w:World) (ha:a<256^128) (he:e<256^128) (hm:m<256^64) (h0:0<m) :
  Calls Tryz.prog 196 #[.string (E a),.string (E e),.string (E m)] w fun r w'=>r=.returned (.string (E (a^e%m)))∧Below w.heap.size w w':=by
 have HA:=Lib.hid ha;have HE:=Lib.hid he;have HM:=Lib.hid hm;have HM1:=Lib.hid (lt64 hm);have H0:=Lib.hid h0;have hsz:=sz e he;have hnb:=nb_le e 128 hsz;have HO:=Lib.hid (show ∀w:World,Calls Tryz.prog 46 #[.int .u64 1] w fun e w'=>e=.returned (.string (E 1))∧Below w.heap.size w w' from fun w=>rof_c 1 w (by decide));clear ha he hm h0;go_enter Tryz.func196,Tryz.ntmps196
 go_wp2_with fail
 refine (HO.out _).mono ?_;rintro e w1 ⟨rfl,hb1⟩;go_wp2_with fail
 refine (rmod3_c 1 m _ (by decide) HM1.out H0.out).mono ?_;rintro e w2 ⟨rfl,hb2⟩;go_wp2_with fail
 refine (rBits_c e _ HE.out).mono ?_;rintro e w' ⟨rfl,rfl⟩;go_wp2;go_loopw [7,8] (fun x y wr=>∃i:Nat,i≤nb e∧y=.int .i64 ((i:Int)-1)∧x=.string (E (a^(e / 2^i)%m))∧Below w.heap.size w wr) (fun _ y _=>(intOf y+1).toNat)
 case atStart =>
  exact ⟨nb e,by omega,rfl,by rw [Nat.div_eq_of_lt (lt_nb e),Nat.pow_zero],bt hb1 hb2⟩
 case round =>
  obtain ⟨j,hj,rfl,rfl,hbel⟩:=hrel;by_cases hlt:0<j
  ·obtain ⟨i,rfl⟩:∃i,j=i+1:=⟨j-1,by omega⟩;have HI:Hid (((i+1:Nat):Int)-1=(i:Int)):=by unfold Hid;omega
   rw [HI.out];have HP0:=Lib.hid (pow_step0 a e m i);have HP1:=Lib.hid (pow_step1 a e m i);have hlm:=Nat.mod_lt (a^(e / 2^(i+1))) H0.out;have HX:=Lib.hid (Nat.lt_trans hlm HM1.out);generalize a^(e / 2^(i+1))%m=x at HP0 HP1 hlm HX;have HX2:=Lib.hid (Nat.lt_trans (Nat.mod_lt (x*x) H0.out) HM1.out);clear hlm;cases hbit:bitB e i
   ·have HR:=Lib.hid (HP0.out hbit);go_wp2_with fail
    refine (rtimes3_c x x m _ HX.out HX.out HM.out H0.out).mono ?_;rintro e w3 ⟨rfl,hb3⟩;go_wp2_with fail
    refine (rBit_c e i _ HE.out (by omega)).mono ?_;rintro e w' ⟨rfl,rfl⟩;rw [hbit];clear hbit;go_wp2;go_roundw
    case rel=>exact ⟨i,by omega,rfl,vE HR.out,bt hbel hb3⟩
    case measure=>simp [intOf] <;> omega
   ·have HR:=Lib.hid (HP1.out hbit);go_wp2_with fail
    refine (rtimes3_c x x m _ HX.out HX.out HM.out H0.out).mono ?_;rintro e w3 ⟨rfl,hb3⟩;go_wp2_with fail
    refine (rBit_c e i _ HE.out (by omega)).mono ?_;rintro e w' ⟨rfl,rfl⟩;rw [hbit];clear hbit;go_wp2_with fail
    refine (rtimes3_c (x*x%m) a m _ HX2.out HA.out HM.out H0.out).mono ?_;rintro e w4 ⟨rfl,hb4⟩;go_wp2;go_roundw
    case rel=>exact ⟨i,by omega,rfl,vE (by rw [←HR.out,Nat.mod_mul_mod]),bt (bt hbel hb3) hb4⟩
    case measure=>simp [intOf] <;> omega
  ·obtain rfl:j=0:=by omega
   go_wp2;go_ret
   exact ⟨rE (by rw [Nat.pow_zero,Nat.div_one]),hbel⟩
theorem rexp3_c (a e m:Nat) (w:World) (ha:a<256^128) (he:e<256^128) (hm:m<256^64) (h0:0<m) :
  Calls Tryz.prog 184 #[.string (E a),.string (E e),.string (E m)] w fun r w'=>r=.returned (.tuple #[.string (E (a^e%m)),.int .i64 0])∧Below w.heap.size w w':=by
 have HC:=Lib.hid (rcheck_c w.heap.size [a,e] m 31 (w.alloc (.cells #[.string (E a),.string (E e),.string (E m)] 31)) (by simp) (by simp [ha,he]) (lt64 hm) (Blk.new _ _ _) h0);have HA:=Lib.hid ha;have HE:=Lib.hid he;have HM:=Lib.hid hm;have H0:=Lib.hid h0;clear ha he hm h0;go_enter Tryz.func184,Tryz.ntmps184
 go_wp2_with fail
 refine (HC.out).mono ?_;rintro e w' ⟨rfl,rfl⟩;go_wp2_with fail
 refine (rraise_c a e m _ HA.out HE.out HM.out H0.out).mono ?_;rintro e w1 ⟨rfl,hb1⟩;go_wp2;go_ret2
 exact ⟨rfl,bt (b1 _ _) hb1⟩
theorem invR_one (a m:Nat) (h:Nat.gcd a m=1):invR a m=invN a m:=by
 unfold invR invN;rw [h,Nat.div_one]
theorem rimodN_c (v m:Nat) (w:World) (hv:v<256^128) (hm:m<256^128) (h0:0<m) :
  Calls Tryz.prog 17 #[.agg #[.bool (sg (v:Int)),.string (E v)],.string (E m)] w fun e w'=>e=.returned (.tuple #[.string (E (v%m)),.int .i64 0])∧Below w.heap.size w w':=by
 have:=rimod_c (v:Int) m w (by simpa using hv) hm h0;rw [Int.natAbs_natCast,←Int.natCast_emod,Int.toNat_natCast] at this;exact this
theorem rinv3_c (a m:Nat) (w:World) (ha:a<256^128) (hm:m<256^32) (h0:0<m) (hg:Nat.gcd a m=1) :
  Calls Tryz.prog 199 #[.string (E a),.string (E m)] w fun r w'=>r=.returned (.tuple #[.string (E (invN (a%m) m)),.int .i64 0])∧Below w.heap.size w w':=by
 have hm64:m<256^64:=Nat.lt_of_lt_of_le hm (Nat.pow_le_pow_right (by decide) (by decide));have HC:=Lib.hid (rcheck_c w.heap.size [a] m 31 (w.alloc (.cells #[.string (E a),.string (E m)] 31)) (by simp) (by simp [ha]) (lt64 hm64) (Blk.new _ _ _) h0);have hla:=Nat.mod_lt a h0;have hg2:Nat.gcd (a%m) m=1:=by rw [←hg,Nat.gcd_comm a m,Nat.gcd_rec m a]
 have HR1:=Lib.hid (invR_one (a%m) m hg2);have hil:=invN_lt (a%m) m h0;have HIM:=Lib.hid (Nat.mod_eq_of_lt hil);have HA:=Lib.hid ha;have HM:=Lib.hid (lt64 hm64);have HM32:=Lib.hid hm;have HA32:=Lib.hid (Nat.lt_trans hla hm);have H0:=Lib.hid h0;have HG:=Lib.hid hg2;have HIB:=Lib.hid (Nat.lt_trans hil HM.out);have HO:=Lib.hid (show ∀w:World,Calls Tryz.prog 46 #[.int .u64 1] w fun e w'=>e=.returned (.string (E 1))∧Below w.heap.size w w' from fun w=>rof_c 1 w (by decide));have heq:=eqE (a:=1) (b:=1) rfl;clear ha hm h0 hm64 hla hg hg2 hil;go_enter Tryz.func199,Tryz.ntmps199
 go_wp2_with fail
 refine (HC.out).mono ?_;rintro e w' ⟨rfl,rfl⟩;go_wp2_with fail
 refine (rmod3_c a m _ HA.out HM.out H0.out).mono ?_;rintro e w1 ⟨rfl,hb1⟩;go_wp2_with fail
 refine (rext_c (a%m) m _ HA32.out HM32.out H0.out).mono ?_;rintro e w2 ⟨rfl,hb2⟩;rw [HG.out,HR1.out];generalize hvv:invN (a%m) m=v at HIM HIB;have HVV:=Lib.hid hvv;clear hvv;generalize extY (a%m) m=y;have hX:=blk2a w2 #[Value.bool (sg (v:Int)),Value.string (E v)] #[Value.bool (sg y),Value.string (E y.natAbs)] 37 37;go_wp2_with fail
 refine (HO.out _).mono ?_;rintro e w3 ⟨rfl,hb3⟩;replace hX:=hX.after hb3;obtain ⟨hXc0,hXf0,hXc1,hXf1⟩:=hX.x2;go_wp2_with fail
 refine (rimodN_c v m _ HIB.out HM.out H0.out).mono ?_;rintro e w4 ⟨rfl,hb4⟩;rw [HIM.out];go_wp2;go_ret2
 exact ⟨r2 (vE HVV.out.symm) rfl,bt (bt (ba (ba (bt (bt (b1 _ _) hb1) hb2) _) _) hb3) hb4⟩
def powI (a:Nat) (z:Int) (m:Nat):Nat:=if z<0 then invN (a%m) m^z.natAbs%m else a^z.natAbs%m
theorem rpow3_c (a:Nat) (z:Int) (m:Nat) (w:World) (ha:a<256^128) (hz:z.natAbs<256^128) (hm:m<256^32) (h0:0<m) (hg:z<0→Nat.gcd a m=1) :
  Calls Tryz.prog 189 #[.string (E a),.agg #[.bool (sg (z)),.string (E (z).natAbs)],.string (E m)] w fun r w'=>r=.returned (.tuple #[.string (E (powI a z m)),.int .i64 0])∧Below w.heap.size w w':=by
 have hm64:m<256^64:=Nat.lt_of_lt_of_le hm (Nat.pow_le_pow_right (by decide) (by decide));have HA:=Lib.hid ha;have HZ:=Lib.hid hz;have HM:=Lib.hid (lt64 hm64);have HM64:=Lib.hid hm64;have HM32:=Lib.hid hm;have H0:=Lib.hid h0;have hz0:=nzE h0;have hX:=Blk.new w #[Value.bool (sg z),Value.string (E z.natAbs)] 37;have HIV:=Lib.hid (rivalidI_c z (w.alloc (.cells #[Value.bool (sg z),Value.string (E z.natAbs)] 37)) hz);by_cases hn:z<0
 ·have HP:Hid (powI a z m=invN (a%m) m^z.natAbs%m):=by rw [Hid,powI,if_pos hn]
  have HG:=Lib.hid (hg hn);have HIL:=Lib.hid (Nat.lt_trans (invN_lt (a%m) m h0) HM.out);rw [sg_of_neg hn] at hX HIV ⊢;clear ha hz hm h0 hm64 hg hn;go_enter Tryz.func189,Tryz.ntmps189
  go_wp2_with fail
  refine (rvalidE_c a _ HA.out).mono ?_;rintro e w' ⟨rfl,rfl⟩;go_wp2_with fail
  refine (HIV.out).mono ?_;rintro e w1 ⟨rfl,hb1⟩;replace hX:=hX.after hb1;obtain ⟨hXc0,hXf0,hXc1,hXf1⟩:=hX.x2;go_wp2_with fail
  refine (rvalidE_c m _ HM.out).mono ?_;rintro e w' ⟨rfl,rfl⟩;go_wp2_with fail
  refine (rinv3_c a m _ HA.out HM32.out H0.out HG.out).mono ?_;rintro e w2 ⟨rfl,hb2⟩;clear hXc0 hXf0 hXc1 hXf1;replace hX:=hX.after hb2;obtain ⟨hXc0,hXf0,hXc1,hXf1⟩:=hX.x2;go_wp2_with fail
  refine (rraise_c (invN (a%m) m) z.natAbs m _ HIL.out HZ.out HM64.out H0.out).mono ?_;rintro e w3 ⟨rfl,hb3⟩;go_wp2;go_ret2
  exact ⟨r2 (vE HP.out.symm) rfl,bt (bt (bt (b1 _ _) hb1) hb2) hb3⟩
 ·have HP:Hid (powI a z m=a^z.natAbs%m):=by rw [Hid,powI,if_neg hn]
  rw [sg_of_nonneg (show 0≤z by omega)] at hX HIV ⊢;clear ha hz hm h0 hm64 hg hn;go_enter Tryz.func189,Tryz.ntmps189
  go_wp2_with fail
  refine (rvalidE_c a _ HA.out).mono ?_;rintro e w' ⟨rfl,rfl⟩;go_wp2_with fail
  refine (HIV.out).mono ?_;rintro e w1 ⟨rfl,hb1⟩;replace hX:=hX.after hb1;obtain ⟨hXc0,hXf0,hXc1,hXf1⟩:=hX.x2;go_wp2_with fail
  refine (rvalidE_c m _ HM.out).mono ?_;rintro e w' ⟨rfl,rfl⟩;go_wp2_with fail
  refine (rraise_c a z.natAbs m _ HA.out HZ.out HM64.out H0.out).mono ?_;rintro e w3 ⟨rfl,hb3⟩;go_wp2;go_ret2
  exact ⟨r2 (vE HP.out.symm) rfl,bt (bt (b1 _ _) hb1) hb3⟩
end
end Go.Proofs.YtdoacbdkbbpamaaGreatDoor
