import Derived.Test.YtihjpddbjhcbmaaGreatDoorDiv
import Derived.Deep.QuietTactic
import Derived.ArgAppend
import Derived.Deep.AppendLies
set_option linter.unusedVariables false
set_option linter.unusedSimpArgs false
set_option maxRecDepth 100000
set_option maxHeartbeats 16000000
namespace Go.Proofs.YtihjpddbjhcbmaaGreatDoor
section
open Go.RowKit
theorem bdrewN (w:World) (n:Nat):Bw w (w.drewN n):=⟨rfl,rfl,rfl,Nat.le_refl _,fun _ _=>rfl⟩
theorem div64_zero (lo y:Nat) (w:World) (h1:0<y) (hy:y<256^8) (hl:lo<256^8) :
  Calls Tryz.prog 318 #[.int .u64 0,.int .u64 lo,.int .u64 y] w fun e w'=>e=.returned (.tuple #[.int .u64 ((lo / y:Nat):Int),.int .u64 ((lo%y:Nat):Int)])∧Bw w w':=by
 have hy0:¬ (y:Int)=0:=by omega
 have hy1:¬ (y:Int)≤0:=by omega
 have hb:=wrapU_div lo y (Nat.lt_of_le_of_lt (Nat.div_le_self _ _) hl);have hc:=wrapU_mod lo y (Nat.lt_of_le_of_lt (Nat.mod_le _ _) hl);clear h1 hy hl;go_enter Tryz.func318,Tryz.ntmps318
 go_wp2;go_quiet (fail)
 all_goals (go_wp2;go_ret2;exact⟨r2 (by simp) (by simp),bdrewN w _⟩)
theorem div64_all (hi lo y:Nat) (w:World) (h1:hi<y) (hy:y<256^8) (hl:lo<256^8) :
  Calls Tryz.prog 318 #[.int .u64 hi,.int .u64 lo,.int .u64 y] w fun e w'=>e=.returned (.tuple #[.int .u64 (((hi*256^8+lo) / y:Nat):Int),.int .u64 (((hi*256^8+lo)%y:Nat):Int)])∧Bw w w':=by
 rcases Nat.eq_zero_or_pos hi with rfl | h0
 ·rw[Nat.zero_mul,Nat.zero_add];exact div64_zero lo y w h1 hy hl
 ·exact (div64_c hi lo y w h0 h1 hy hl).mono fun _ _ ⟨h,hw⟩=>⟨h,hw ▸ Br⟩
theorem rem64_c (hi lo y:Nat) (w:World) (h1:hi<y) (hy:y<256^8) (hl:lo<256^8) :
  Calls Tryz.prog 276 #[.int .u64 hi,.int .u64 lo,.int .u64 y] w fun e w'=>e=.returned (.int .u64 (((hi*256^8+lo)%y:Nat):Int))∧Bw w w':=by
 have hy0:¬ y=0:=by omega
 have HC:=Kh (div64_all hi lo y w h1 hy hl);have hm:(hi:Int)%(y:Int)=(hi:Int):=by rw[←Int.natCast_emod,Nat.mod_eq_of_lt h1]
 generalize (hi*256^8+lo) / y=q at HC;generalize (hi*256^8+lo)%y=r at HC;clear h1 hy hl;go_enter Tryz.func276,Tryz.ntmps276
 go_wp2_with fail
 refine HC.out.mono ?_;rintro e w1 ⟨rfl,hb⟩;go_wp2;go_ret
 exact⟨rfl,hb⟩
end
section
/- Groups,their elements,products of powers and the extended algorithm of Euclid,in plain Lean. -/
def grpE (p q:Nat):Nat:=if q=0 then (if p%2=1∧8<p then 0 else 13) else (if 2≤p∧2≤q∧(p-1)%q=0 then 0 else 13)
def hasB (p q x:Nat):Bool:=if q=0 then decide (x≠0∧x<p∧Nat.gcd x p=1) else decide (x≠0∧x<p∧x^q%p=1%p)
theorem grp_gt {p q:Nat} (h:grpE p q=0):2≤p:=by
 unfold grpE at h;by_cases hq:q=0
 ·rw[if_pos hq]at h;by_cases h2:p%2=1∧8<p
  ·omega
  ·rw[if_neg h2]at h;omega
 ·rw[if_neg hq]at h;by_cases h2:2≤p∧2≤q∧(p-1)%q=0
  ·exact h2.1
  ·rw[if_neg h2]at h;omega
theorem pow_one_coprime (x q p:Nat) (hq:0<q) (h:x^q%p=1):Nat.gcd x p=1:=by
 have h1:Nat.gcd x p∣x^q:=Nat.dvd_trans (Nat.gcd_dvd_left x p) (by obtain⟨k,rfl⟩:∃k,q=k+1:=⟨q-1,by omega⟩;rw[Nat.pow_succ];exact Nat.dvd_mul_left _ _);have h2:Nat.gcd x p∣x^q%p:=(Nat.dvd_mod_iff (Nat.gcd_dvd_right x p)).2 h1;rw[h]at h2;exact Nat.dvd_one.1 h2
theorem has_coprime {p q x:Nat} (hp:2≤p) (h:hasB p q x=true):Nat.gcd x p=1:=by
 unfold hasB at h;by_cases hq:q=0
 ·rw[if_pos hq,decide_eq_true_iff]at h;exact h.2.2
 ·rw[if_neg hq,decide_eq_true_iff]at h;exact pow_one_coprime x q p (by omega) (by rw[h.2.2,Nat.mod_eq_of_lt (by omega)])
theorem has_lt {p q x:Nat} (h:hasB p q x=true):x<p:=by
 unfold hasB at h;by_cases hq:q=0
 ·rw[if_pos hq,decide_eq_true_iff]at h;exact h.2.1
 ·rw[if_neg hq,decide_eq_true_iff]at h;exact h.2.1
def pw:List (Nat × Nat)→Nat→Nat
 | [],_=>1
 | (x,e) :: t,b=>x^(e / 2^b)*pw t b
def pb:List (Nat × Nat)→Nat→Nat
 | [],_=>1
 | (x,e) :: t,b=>(if bitB e b then x else 1)*pb t b
theorem pw_step:∀(l:List (Nat × Nat)) (b:Nat),pw l (b+1)*pw l (b+1)*pb l b=pw l b
 | [],b=>rfl
 | (x,e) :: t,b=>by
  have ih:=pw_step t b
  have h:x^(e / 2^(b+1))*x^(e / 2^(b+1))*(if bitB e b then x else 1)=x^(e / 2^b):=by
   cases hb:bitB e b
   ·rw[bit_nil hb];generalize e / 2^(b+1)=k;rw[Nat.two_mul,Nat.pow_add];simp
   ·rw[bit_one hb];generalize e / 2^(b+1)=k;rw[Nat.pow_succ,Nat.two_mul,Nat.pow_add];simp
  show x^(e / 2^(b+1))*pw t (b+1)*(x^(e / 2^(b+1))*pw t (b+1))*((if bitB e b then x else 1)*pb t b)=x^(e / 2^b)*pw t b;rw[←ih,←h];ac_rfl
theorem pb_snoc:∀(l:List (Nat × Nat)) (x e b:Nat),pb (l++[(x,e)]) b=pb l b*(if bitB e b then x else 1)
 | [],x,e,b=>by show _*1=1*_;rw[Nat.one_mul,Nat.mul_one]
 | (y,f) :: t,x,e,b=>by
  show _*pb (t++[(x,e)]) b=_*pb t b*_;rw[pb_snoc t x e b,Nat.mul_assoc]
theorem pw_top:∀(l:List (Nat × Nat)) (b:Nat),(∀z∈l,z.2<2^b)→pw l b=1
 | [],b,_=>rfl
 | (x,e) :: t,b,h=>by
  have h1:=h (x,e) (List.mem_cons_self ..);show x^(e / 2^b)*pw t b=1;rw[Nat.div_eq_of_lt h1,pw_top t b (fun z hz=>h z (List.mem_cons_of_mem _ hz))];rfl
structure Ext (a b r0 r1:Nat) (x0 x1 y0 y1:Int) (u0 u1 v0 v1:Nat) (s:Int):Prop where
 hs:s=1∨s=-1
 hx0:x0=s*u0
 hx1:x1=-s*u1
 hy0:y0=-s*v0
 hy1:y1=s*v1
 bu:u0*r1+u1*r0=b
 av:v0*r1+v1*r0=a
 e0:a*x0+b*y0=r0
 e1:a*x1+b*y1=r1
 g:Nat.gcd r0 r1=Nat.gcd a b
 mono:(s=1∧u0=1∧u1=0∧r1=b∧v0=0∧v1=1)∨(u0≤u1∧r1<r0)
theorem Ext.start (a b:Nat):Ext a b a b 1 0 0 1 1 0 0 1 1:=
 ⟨.inl rfl,by simp,by simp,by simp,by simp,by simp,by simp,by simp,by simp,rfl,.inl ⟨rfl,rfl,rfl,rfl,rfl,rfl⟩⟩
theorem Ext.step {a b r0 r1:Nat} {x0 x1 y0 y1:Int} {u0 u1 v0 v1:Nat} {s:Int} (h:Ext a b r0 r1 x0 x1 y0 y1 u0 u1 v0 v1 s) (h1:0<r1) :
  Ext a b r1 (r0%r1) x1 (x0-(r0 / r1:Nat)*x1) y1 (y0-(r0 / r1:Nat)*y1) u1 (u0+r0 / r1*u1) v1 (v0+r0 / r1*v1) (-s):=by
 have hd:=Nat.div_add_mod r0 r1;have hlt:=Nat.mod_lt r0 h1;generalize hq:r0 / r1=q at hd ⊢;generalize hr:r0%r1=r at hd hlt ⊢;have hc:(r1:Int)*q+r=r0:=by rw[←hd];push_cast;rfl
 refine⟨?_,?_,?_,?_,?_,?_,?_,?_,?_,?_,?_⟩
 ·rcases h.hs with e | e <;> omega
 ·rw[h.hx1]
 ·rw[h.hx0,h.hx1];push_cast;grind
 ·rw[h.hy1];simp
 ·rw[h.hy0,h.hy1];push_cast;grind
 ·have:=h.bu;rw[←hd]at this;rw[←this];grind
 ·have:=h.av;rw[←hd]at this;rw[←this];grind
 ·exact h.e1
 ·have e0:=h.e0;have e1:=h.e1;have:(r:Int)=r0-r1*q:=by omega
  rw[this,←e0,←e1];grind
 ·rw[←h.g,←hr,Nat.gcd_comm r0 r1,Nat.gcd_rec r1 r0,Nat.gcd_comm]
 ·refine .inr ⟨?_,hlt⟩;rcases h.mono with⟨_,e0,e1,_⟩ | ⟨hu,hb⟩
  ·omega
  ·have:1≤q:=by rw[←hq];exact Nat.div_pos (Nat.le_of_lt hb) h1
   have:1*u1≤q*u1:=Nat.mul_le_mul_right _ this;omega
theorem Ext.xle {a b r0 r1:Nat} {x0 x1 y0 y1:Int} {u0 u1 v0 v1:Nat} {s:Int} (h:Ext a b r0 r1 x0 x1 y0 y1 u0 u1 v0 v1 s) :
  x0.natAbs=u0∧x1.natAbs=u1∧y0.natAbs=v0∧y1.natAbs=v1:=by
 rcases h.hs with rfl | rfl <;> (rw[h.hx0,h.hx1,h.hy0,h.hy1];omega)
end
section
open Go.RowKit
theorem info_nat:(Tryz.prog.info? 22).map (fun i=>(i.zero,i.size,i.bytes))=some (some (.string { data:=#[] }),1,16):=by kernel_rfl
theorem strs_len (l:List Nat):(strs l).length=l.length:=by simp[strs]
theorem strs_one (l:List Nat):∀u∈strs l,u.oneCell'=true:=by
 intro u hu;obtain⟨n,_,rfl⟩:=List.mem_map.1 hu;rfl
theorem strs_app (a b:List Nat):strs a++strs b=strs (a++b):=by simp[strs]
theorem Blk.cells {w:World} {g:Nat} {T:TypeId} {cs:List Value} (h:Blk w g T cs):∀j u,cs[j]?=some u→w.cell? ((⟨g,0,none⟩:Addr).add j)=some u:=by
 intro j u hu;rw[Addr.add_lit,Nat.zero_add,h.cell,hu]
theorem own_cell {w:World} {base g n c:Nat} {e:TypeId} {xs:List Value} (h:w.ownsRow base e 1 (.slice (some ⟨g,0,none⟩) n c) n xs) (j:Nat) (u:Value) (hj:xs[j]?=some u):w.cell? ⟨g,j,none⟩=some u:=by
 have:=h.cells (g:=g) rfl j u hj;rwa [Addr.add_lit,Nat.zero_add]at this
theorem Below.of_grown {w w':World} (h:w.grownBy w' none):Bw w w':=Br.grown h (Nat.le_refl _) (by simp)
theorem mcheck_c (b b':Nat) (l:List Nat) (x:Nat) (w:World) (hu:0<l.length) (hl:l.length≤1000) (hv:∀n∈l,n<256^128) (hx:x<256^128) (h0:0<x) (hB:Blk w b 22 (strs l)) (he:Blk w b' 22 (strs [x])) :
  Calls Tryz.prog 212 #[.slice (some ⟨b,0,none⟩) l.length l.length,.slice (some ⟨b',0,none⟩) 1 1] w fun e w'=>e=.returned (.int .i64 0)∧Bw w w':=by
 obtain⟨i0,hf,hg,hh,hi⟩:=info_parts info_nat
 have HV:Hid (∀n∈l++[x],n<256^128):=by
  intro n hn;rcases List.mem_append.1 hn with h | h
  ·exact hv n h
  ·rw[List.mem_singleton]at h;rw[h];exact hx
 have HL:=Kh (strs_len l);have hz:=nzE h0;have HI:=Kh hf;have hq:=Kh hg;have hr:=Kh hh;have ht:=Kh hi;clear hv hx h0 hf hg hh hi;go_enter Tryz.func212,Tryz.ntmps212
 go_wp2_with (at_builtin;refine wpList_append_grows _ rfl _ _ _ rfl 22 i0 _ 1 16 Tryz.underlying31 HI.out hq.out hr.out ht.out rfl (by omega) (some ⟨b,0,none⟩) l.length l.length (strs l) rfl (fun h=>(by cases h)) (by rw[HL.out,Nat.mul_one]) (fun a ha=>by cases ha;exact hB.cells) ⟨b',0,none⟩ 1 1 (strs [x]) rfl rfl he.cells (strs_one _) (by omega) (by simp only[maxLen];omega) (by omega) ?_;intro v1 w1 hb hd;obtain⟨g,c,rfl,hw,hy⟩:=hb.form (by omega);rw[strs_app]at hb)
 have hm:=Below.of_grown hd;have ho:=he.after hm;have hA:w1.cell? ⟨b',0,none⟩=some (.string (E x)):=ho.cell 0
 have HC:Hid (∀j (hj:j<(l++[x]).length),w1.cell? ⟨g,j,none⟩=some (.string (E (l++[x])[j]))):=by
  intro j hj;exact own_cell hb j _ (by simp only[strs,List.getElem?_map,List.getElem?_eq_getElem hj,Option.map_some])
 clear hb hd hB he ho;go_loop [13] (fun i=>∃k:Nat,k≤l.length+1∧i=.int .i64 k) (fun i=>l.length+1-(intOf i).toNat)
 case atStart=>exact⟨0,by omega,rfl⟩
 case round =>
  obtain⟨k,hk,rfl⟩:=hrel;by_cases hlt:k<l.length+1
  ·have hp:k<(l++[x]).length:=by simp;omega
   have hc:=HC.out k hp;have HN:=Kh (HV.out _ (Gm hp));generalize (l++[x])[k]=n at hc HN;go_wp2_with fail
   refine (validE_c n _ HN.out).mono ?_;rintro e w' ⟨rfl,rfl⟩;go_wp2;go_round
   case rel=>exact⟨k+1,by omega,by go_num⟩
   case measure=>simp[intOf];omega
  ·obtain rfl:k=l.length+1:=by omega
   go_wp2;go_loop [23] (fun i=>i=.int .i64 0∨i=.int .i64 1) (fun i=>1-(intOf i).toNat)
   case atStart=>exact .inl rfl
   case round =>
    rcases hrel with rfl | rfl
    ·go_wp2;go_round
     case rel=>exact .inr rfl
     case measure=>simp[intOf]
    ·go_wp2;go_ret
     exact⟨rfl,hm⟩
theorem mreduced_c (a m:Nat) (w:World) (ha:a<256^8) (hm:m<256^128) (h0:0<m) :
  Calls Tryz.prog 214 #[.string (E a),.string (E m)] w fun e w'=>e=.returned (.string (E (a%m)))∧Bw w w':=by
 have HA:=Kh ha;have HM:=Kh hm;have H0:=Kh h0;clear ha hm h0;go_enter Tryz.func214,Tryz.ntmps214
 go_wp2_with fail
 refine (divmod_c a m _ HA.out HM.out H0.out).mono ?_;rintro e w1 ⟨rfl,hb⟩;go_wp2;go_ret
 exact⟨rfl,hb⟩
theorem mul64F_c (x y:Nat) (w:World) (hx:x<256^8) (hy:y<256^8) :
  Calls Tryz.prog 274 #[.int .u64 x,.int .u64 y] w fun e w'=>e=.returned (.tuple #[.int .u64 ((x*y / 256^8:Nat):Int),.int .u64 ((x*y%256^8:Nat):Int)])∧w=w':=by
 rw[←u64_as_pow]at hx hy;exact (Tryz.bits_Mul64 x y hx hy w).mono fun _ _ h2=>⟨h2.1,h2.2.symm⟩
theorem mulMod_c (a b m hi lo:Nat) (w:World) (ha:a%m<256^8) (hb:b%m<256^8) (hc:a%m*(b%m) / 256^8=hi) (hd:a%m*(b%m)%256^8=lo) :
  Calls Tryz.prog 274 #[.int .u64 ((a:Int)%(m:Int)),.int .u64 ((b:Int)%(m:Int))] w fun e w'=>e=.returned (.tuple #[.int .u64 hi,.int .u64 lo])∧w=w':=by
 rw[←Int.natCast_emod,←Int.natCast_emod,←hc,←hd];exact mul64F_c _ _ w ha hb
theorem rem64R_c (hi lo y r:Nat) (w:World) (h1:hi<y) (hy:y<256^8) (hl:lo<256^8) (hr:(hi*256^8+lo)%y=r) :
  Calls Tryz.prog 276 #[.int .u64 hi,.int .u64 lo,.int .u64 y] w fun e w'=>e=.returned (.int .u64 (r:Int))∧Bw w w':=by
 rw[←hr];exact rem64_c hi lo y w h1 hy hl
theorem mtimes_aux (a b m hi lo r:Nat) (w:World) (ha:a<256^8) (hb:b<256^8) (hm:m<256^8) (h0:0<m) (hc:a%m*(b%m) / 256^8=hi) (hd:a%m*(b%m)%256^8=lo) (hr:(hi*256^8+lo)%m=r) (h1:hi<m) (hl:lo<256^8) :
  Calls Tryz.prog 213 #[.string (E a),.string (E b),.string (E m)] w fun e w'=>e=.returned (.string (E r))∧Bw w w':=by
 have h1:=(E_size_le a 8).2 ha;have h2:=(E_size_le b 8).2 hb;have h3:=(E_size_le m 8).2 hm;have HA:=Kh ha;have HB:=Kh hb;have HM:=Kh hm;have HR:=Kh (rem64R_c hi lo m r · ‹_› hm hl hr);have hf:Hid (r<256^8):=by rw[Hid,←hr];exact Nat.lt_trans (Nat.mod_lt _ h0) hm
 have HU:=Kh (mulMod_c a b m hi lo · (Nat.lt_trans (Nat.mod_lt a h0) hm) (Nat.lt_trans (Nat.mod_lt b h0) hm) hc hd);have hy0:¬ m=0:=by omega
 clear ha hb hm h0 hc hd hr hl ‹hi<m›;go_enter Tryz.func213,Tryz.ntmps213
 go_wp2_with fail
 refine (small_c a _ HA.out).mono ?_;rintro e w' ⟨rfl,rfl⟩;go_wp2_with fail
 refine (small_c b _ HB.out).mono ?_;rintro e w' ⟨rfl,rfl⟩;go_wp2_with fail
 refine (small_c m _ HM.out).mono ?_;rintro e w' ⟨rfl,rfl⟩;go_wp2_with fail
 refine wp_region_gw (by kernel_rfl) (by kernel_rfl) ?_;repeat (go_big_quiet_step (first | (go_at_call 274;exact gw_same (HU.out _))))
 refine wpQuiet_nil ?_;rintro w1 ⟨xw1,rfl⟩;have he:=gw_below xw1;generalize gw xw1=w1 at he;go_wp2_with fail
 refine (HR.out _).mono ?_;rintro e w2 ⟨rfl,hg⟩;go_wp2_with fail
 refine (of_c r _ hf.out).mono ?_;rintro e w3 ⟨rfl,hh⟩;go_wp2;go_ret
 exact⟨rfl,bt (bt he hg) hh⟩
theorem mtimes_c (a b m:Nat) (w:World) (ha:a<256^8) (hb:b<256^8) (hm:m<256^8) (h0:0<m) :
  Calls Tryz.prog 213 #[.string (E a),.string (E b),.string (E m)] w fun e w'=>e=.returned (.string (E (a*b%m)))∧Bw w w':=by
 have hc:=Nat.mod_lt a h0;have hd:=Nat.mod_lt b h0;have hp:(0:Nat)<256^8:=by decide
 refine mtimes_aux a b m _ _ _ w ha hb hm h0 rfl rfl ?_ ?_ (Nat.mod_lt _ hp)
 ·rw[Nat.mul_comm _ (256^8),Nat.div_add_mod,←Nat.mul_mod]
 ·rw[Nat.div_lt_iff_lt_mul hp];exact Nat.mul_lt_mul'' hc (Nat.lt_trans hd hm)
theorem mmul_c (a b m:Nat) (w:World) (ha:a<256^8) (hb:b<256^8) (hm:m<256^8) (h0:0<m) :
  Calls Tryz.prog 116 #[.string (E a),.string (E b),.string (E m)] w fun e w'=>e=.returned (.tuple #[.string (E (a*b%m)),.int .i64 0])∧Bw w w':=by
 have HC:=Kh (mcheck_c w.heap.size (w.heap.size+1) [a,b] m ((w.alloc (.cells #[.string (E a),.string (E b)] 22)).alloc (.cells #[.string (E m)] 22)) (by simp) (by simp) (by simp[lt128 ha,lt128 hb]) (lt128 hm) h0 (blk2a _ _ _ _ _) (blk2b _ _ _ _ _));have HT:=Kh (mtimes_c a b m · ha hb hm h0);clear ha hb hm h0;go_enter Tryz.func116,Tryz.ntmps116
 go_wp2_with fail
 refine (HC.out).mono ?_;rintro e w1 ⟨rfl,hc⟩;go_wp2_with fail
 refine (HT.out _).mono ?_;rintro e w2 ⟨rfl,hd⟩;go_wp2;go_ret2
 exact⟨rfl,bt (bt (b2 _ _ _) hc) hd⟩
end
end Go.Proofs.YtihjpddbjhcbmaaGreatDoor
