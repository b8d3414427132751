import Derived.Test.YtdoacbdkbbpamaaGreatDoorDiv
import Derived.Test.YtdoacbdkbbpamaaGreatDoorRInt6
import Derived.Test.YtdoacbdkbbpamaaGreatDoorGrp
import Derived.Test.YtdoacbdkbbpamaaGreatDoorLdvl
import Derived.ArgAppend
import Derived.Deep.AppendLies
import Derived.RangeFuncNested
import Derived.RangeFuncBound
import Derived.RangeFuncCalls
import Derived.RangeFuncLeaves
import Derived.Shelf.Abstract
import Derived.Shelf.RegionOpen
import Derived.OwnWalkIn
import Derived.TacticsInMore
import Derived.LoopNIn
import Derived.LoopIn
set_option linter.unusedVariables false
set_option linter.unusedSimpArgs false
set_option maxRecDepth 100000
set_option maxHeartbeats 16000000
namespace Go.Proofs.YtdoacbdkbbpamaaGreatDoor
section
open Go.RowKit
def subM (a b m:Nat):Nat:=(a%m+m-b%m)%m
theorem rsub3_c (a b m:Nat) (w:World) (ha:a<256^128) (hb:b<256^128) (hm:m<256^64) (h0:0<m) :
  Calls Tryz.prog 39 #[.string (E a),.string (E b),.string (E m)] w fun e w'=>e=.returned (.tuple #[.string (E (subM a b m)),.int .i64 0])∧Below w.heap.size w w':=by
 have HC:=Lib.hid (rcheck_c w.heap.size [a,b] m 31 (w.alloc (.cells #[.string (E a),.string (E b),.string (E m)] 31)) (by simp) (by simp [ha,hb]) (lt64 hm) (Blk.new _ _ _) h0);have hla:=Nat.mod_lt a h0;have hlb:=Nat.mod_lt b h0;have HA:=Lib.hid ha;have HB:=Lib.hid hb;have HM:=Lib.hid (lt64 hm);have H0:=Lib.hid h0;have h64:(256:Nat)^64+256^64<256^128:=by decide
 have H1:=Lib.hid (Nat.lt_trans hla HM.out);have H2:=Lib.hid (show a%m+m<256^128 by omega);have H3:=Lib.hid (show b%m≤a%m+m by omega);have H4:=Lib.hid (show a%m+m-b%m<256^128 by omega);have HS:=Lib.hid (show subM a b m=(a%m+m-b%m)%m from rfl);clear ha hb hm h0 hla hlb h64;go_enter Tryz.func39,Tryz.ntmps39
 go_wp2_with fail
 refine (HC.out).mono ?_;rintro e w' ⟨rfl,rfl⟩;go_wp2_with fail
 refine (rmod3_c a m _ HA.out HM.out H0.out).mono ?_;rintro e w1 ⟨rfl,hb1⟩;go_wp2_with fail
 refine (radd_c (a%m) m _ H1.out HM.out H2.out).mono ?_;rintro e w2 ⟨rfl,hb2⟩;go_wp2_with fail
 refine (rmod3_c b m _ HB.out HM.out H0.out).mono ?_;rintro e w3 ⟨rfl,hb3⟩;go_wp2_with fail
 refine (rsub_c (a%m+m) (b%m) _ H2.out H3.out).mono ?_;rintro e w4 ⟨rfl,hb4⟩;go_wp2_with fail
 refine (rmod3_c (a%m+m-b%m) m _ H4.out HM.out H0.out).mono ?_;rintro e w5 ⟨rfl,hb5⟩;go_wp2;go_ret2
 exact ⟨r2 (vE HS.out.symm) rfl,bt (bt (bt (bt (bt (b1 _ _) hb1) hb2) hb3) hb4) hb5⟩
theorem pow_step0 (a e m i:Nat) (h:bitB e i=false):a^(e / 2^(i+1))%m*(a^(e / 2^(i+1))%m)%m=a^(e / 2^i)%m:=by
 rw [bit_nil h];generalize e / 2^(i+1)=k;rw [Nat.two_mul,Nat.pow_add,←Nat.mul_mod]
theorem pow_step1 (a e m i:Nat) (h:bitB e i=true):a^(e / 2^(i+1))%m*(a^(e / 2^(i+1))%m)%m*a%m=a^(e / 2^i)%m:=by
 rw [bit_one h];generalize e / 2^(i+1)=k;rw [Nat.pow_succ,Nat.two_mul,Nat.pow_add,←Nat.mul_mod,Nat.mod_mul_mod]
theorem rraise_c (a e m:Nat) (w:World) (ha:a<256^128) (he:e<256^128) (hm:m<256^64) (h0:0<m) :
  Calls Tryz.prog 196 #[.string (E a),.string (E e),.string (E m)] w fun r w'=>r=.returned (.string (E (a^e%m)))∧Below w.heap.size w w':=by
 have HA:=Lib.hid ha;have HE:=Lib.hid he;have HM:=Lib.hid hm;have HM1:=Lib.hid (lt64 hm);have H0:=Lib.hid h0;have hsz:=sz e he;have hnb:=nb_le e 128 hsz;have HO:=Lib.hid (show ∀w:World,Calls Tryz.prog 46 #[.int .u64 1] w fun e w'=>e=.returned (.string (E 1))∧Below w.heap.size w w' from fun w=>rof_c 1 w (by decide));clear ha he hm h0;go_enter Tryz.func196,Tryz.ntmps196
 go_wp2_with fail
 refine (HO.out _).mono ?_;rintro e w1 ⟨rfl,hb1⟩;go_wp2_with fail
 refine (rmod3_c 1 m _ (by decide) HM1.out H0.out).mono ?_;rintro e w2 ⟨rfl,hb2⟩;go_wp2_with fail
 refine (rBits_c e _ HE.out).mono ?_;rintro e w' ⟨rfl,rfl⟩;go_wp2;go_loopw [7,8] (fun x y wr=>∃i:Nat,i≤nb e∧y=.int .i64 ((i:Int)-1)∧x=.string (E (a^(e / 2^i)%m))∧Below w.heap.size w wr) (fun _ y _=>(intOf y+1).toNat)
 case atStart =>
  exact ⟨nb e,by omega,rfl,by rw [Nat.div_eq_of_lt (lt_nb e),Nat.pow_zero],bt hb1 hb2⟩
 case round =>
  obtain ⟨j,hj,rfl,rfl,hbel⟩:=hrel;by_cases hlt:0<j
  ·obtain ⟨i,rfl⟩:∃i,j=i+1:=⟨j-1,by omega⟩;have HI:Hid (((i+1:Nat):Int)-1=(i:Int)):=by unfold Hid;omega
   rw [HI.out];have HP0:=Lib.hid (pow_step0 a e m i);have HP1:=Lib.hid (pow_step1 a e m i);have hlm:=Nat.mod_lt (a^(e / 2^(i+1))) H0.out;have HX:=Lib.hid (Nat.lt_trans hlm HM1.out);generalize a^(e / 2^(i+1))%m=x at HP0 HP1 hlm HX;have HX2:=Lib.hid (Nat.lt_trans (Nat.mod_lt (x*x) H0.out) HM1.out);clear hlm;cases hbit:bitB e i
   ·have HR:=Lib.hid (HP0.out hbit);go_wp2_with fail
    refine (rtimes3_c x x m _ HX.out HX.out HM.out H0.out).mono ?_;rintro e w3 ⟨rfl,hb3⟩;go_wp2_with fail
    refine (rBit_c e i _ HE.out (by omega)).mono ?_;rintro e w' ⟨rfl,rfl⟩;rw [hbit];clear hbit;go_wp2;go_roundw
    case rel=>exact ⟨i,by omega,rfl,vE HR.out,bt hbel hb3⟩
    case measure=>simp [intOf] <;> omega
   ·have HR:=Lib.hid (HP1.out hbit);go_wp2_with fail
    refine (rtimes3_c x x m _ HX.out HX.out HM.out H0.out).mono ?_;rintro e w3 ⟨rfl,hb3⟩;go_wp2_with fail
    refine (rBit_c e i _ HE.out (by omega)).mono ?_;rintro e w' ⟨rfl,rfl⟩;rw [hbit];clear hbit;go_wp2_with fail
    refine (rtimes3_c (x*x%m) a m _ HX2.out HA.out HM.out H0.out).mono ?_;rintro e w4 ⟨rfl,hb4⟩;go_wp2;go_roundw
    case rel=>exact ⟨i,by omega,rfl,vE (by rw [←HR.out,Nat.mod_mul_mod]),bt (bt hbel hb3) hb4⟩
    case measure=>simp [intOf] <;> omega
  ·obtain rfl:j=0:=by omega
   go_wp2;go_ret
   exact ⟨rE (by rw [Nat.pow_zero,Nat.div_one]),hbel⟩
theorem rexp3_c (a e m:Nat) (w:World) (ha:a<256^128) (he:e<256^128) (hm:m<256^64) (h0:0<m) :
  Calls Tryz.prog 184 #[.string (E a),.string (E e),.string (E m)] w fun r w'=>r=.returned (.tuple #[.string (E (a^e%m)),.int .i64 0])∧Below w.heap.size w w':=by
 have HC:=Lib.hid (rcheck_c w.heap.size [a,e] m 31 (w.alloc (.cells #[.string (E a),.string (E e),.string (E m)] 31)) (by simp) (by simp [ha,he]) (lt64 hm) (Blk.new _ _ _) h0);have HA:=Lib.hid ha;have HE:=Lib.hid he;have HM:=Lib.hid hm;have H0:=Lib.hid h0;clear ha he hm h0;go_enter Tryz.func184,Tryz.ntmps184
 go_wp2_with fail
 refine (HC.out).mono ?_;rintro e w' ⟨rfl,rfl⟩;go_wp2_with fail
 refine (rraise_c a e m _ HA.out HE.out HM.out H0.out).mono ?_;rintro e w1 ⟨rfl,hb1⟩;go_wp2;go_ret2
 exact ⟨rfl,bt (b1 _ _) hb1⟩
theorem invR_one (a m:Nat) (h:Nat.gcd a m=1):invR a m=invN a m:=by
 unfold invR invN;rw [h,Nat.div_one]
theorem rimodN_c (v m:Nat) (w:World) (hv:v<256^128) (hm:m<256^128) (h0:0<m) :
  Calls Tryz.prog 17 #[.agg #[.bool (sg (v:Int)),.string (E v)],.string (E m)] w fun e w'=>e=.returned (.tuple #[.string (E (v%m)),.int .i64 0])∧Below w.heap.size w w':=by
 have:=rimod_c (v:Int) m w (by simpa using hv) hm h0;rw [Int.natAbs_natCast,←Int.natCast_emod,Int.toNat_natCast] at this;exact this
theorem rinv3_c (a m:Nat) (w:World) (ha:a<256^128) (hm:m<256^32) (h0:0<m) (hg:Nat.gcd a m=1) :
  Calls Tryz.prog 199 #[.string (E a),.string (E m)] w fun r w'=>r=.returned (.tuple #[.string (E (invN (a%m) m)),.int .i64 0])∧Below w.heap.size w w':=by
 have hm64:m<256^64:=Nat.lt_of_lt_of_le hm (Nat.pow_le_pow_right (by decide) (by decide));have HC:=Lib.hid (rcheck_c w.heap.size [a] m 31 (w.alloc (.cells #[.string (E a),.string (E m)] 31)) (by simp) (by simp [ha]) (lt64 hm64) (Blk.new _ _ _) h0);have hla:=Nat.mod_lt a h0;have hg2:Nat.gcd (a%m) m=1:=by rw [←hg,Nat.gcd_comm a m,Nat.gcd_rec m a]
 have HR1:=Lib.hid (invR_one (a%m) m hg2);have hil:=invN_lt (a%m) m h0;have HIM:=Lib.hid (Nat.mod_eq_of_lt hil);have HA:=Lib.hid ha;have HM:=Lib.hid (lt64 hm64);have HM32:=Lib.hid hm;have HA32:=Lib.hid (Nat.lt_trans hla hm);have H0:=Lib.hid h0;have HG:=Lib.hid hg2;have HIB:=Lib.hid (Nat.lt_trans hil HM.out);have HO:=Lib.hid (show ∀w:World,Calls Tryz.prog 46 #[.int .u64 1] w fun e w'=>e=.returned (.string (E 1))∧Below w.heap.size w w' from fun w=>rof_c 1 w (by decide));have heq:=eqE (a:=1) (b:=1) rfl;clear ha hm h0 hm64 hla hg hg2 hil;go_enter Tryz.func199,Tryz.ntmps199
 go_wp2_with fail
 refine (HC.out).mono ?_;rintro e w' ⟨rfl,rfl⟩;go_wp2_with fail
 refine (rmod3_c a m _ HA.out HM.out H0.out).mono ?_;rintro e w1 ⟨rfl,hb1⟩;go_wp2_with fail
 refine (rext_c (a%m) m _ HA32.out HM32.out H0.out).mono ?_;rintro e w2 ⟨rfl,hb2⟩;rw [HG.out,HR1.out];generalize hvv:invN (a%m) m=v at HIM HIB;have HVV:=Lib.hid hvv;clear hvv;generalize extY (a%m) m=y;have hX:=blk2a w2 #[Value.bool (sg (v:Int)),Value.string (E v)] #[Value.bool (sg y),Value.string (E y.natAbs)] 37 37;go_wp2_with fail
 refine (HO.out _).mono ?_;rintro e w3 ⟨rfl,hb3⟩;replace hX:=hX.after hb3;obtain ⟨hXc0,hXf0,hXc1,hXf1⟩:=hX.x2;go_wp2_with fail
 refine (rimodN_c v m _ HIB.out HM.out H0.out).mono ?_;rintro e w4 ⟨rfl,hb4⟩;rw [HIM.out];go_wp2;go_ret2
 exact ⟨r2 (vE HVV.out.symm) rfl,bt (bt (ba (ba (bt (bt (b1 _ _) hb1) hb2) _) _) hb3) hb4⟩
def powI (a:Nat) (z:Int) (m:Nat):Nat:=if z<0 then invN (a%m) m^z.natAbs%m else a^z.natAbs%m
theorem rpow3_c (a:Nat) (z:Int) (m:Nat) (w:World) (ha:a<256^128) (hz:z.natAbs<256^128) (hm:m<256^32) (h0:0<m) (hg:z<0→Nat.gcd a m=1) :
  Calls Tryz.prog 189 #[.string (E a),.agg #[.bool (sg (z)),.string (E (z).natAbs)],.string (E m)] w fun r w'=>r=.returned (.tuple #[.string (E (powI a z m)),.int .i64 0])∧Below w.heap.size w w':=by
 have hm64:m<256^64:=Nat.lt_of_lt_of_le hm (Nat.pow_le_pow_right (by decide) (by decide));have HA:=Lib.hid ha;have HZ:=Lib.hid hz;have HM:=Lib.hid (lt64 hm64);have HM64:=Lib.hid hm64;have HM32:=Lib.hid hm;have H0:=Lib.hid h0;have hz0:=nzE h0;have hX:=Blk.new w #[Value.bool (sg z),Value.string (E z.natAbs)] 37;have HIV:=Lib.hid (rivalidI_c z (w.alloc (.cells #[Value.bool (sg z),Value.string (E z.natAbs)] 37)) hz);by_cases hn:z<0
 ·have HP:Hid (powI a z m=invN (a%m) m^z.natAbs%m):=by rw [Hid,powI,if_pos hn]
  have HG:=Lib.hid (hg hn);have HIL:=Lib.hid (Nat.lt_trans (invN_lt (a%m) m h0) HM.out);rw [sg_of_neg hn] at hX HIV ⊢;clear ha hz hm h0 hm64 hg hn;go_enter Tryz.func189,Tryz.ntmps189
  go_wp2_with fail
  refine (rvalidE_c a _ HA.out).mono ?_;rintro e w' ⟨rfl,rfl⟩;go_wp2_with fail
  refine (HIV.out).mono ?_;rintro e w1 ⟨rfl,hb1⟩;replace hX:=hX.after hb1;obtain ⟨hXc0,hXf0,hXc1,hXf1⟩:=hX.x2;go_wp2_with fail
  refine (rvalidE_c m _ HM.out).mono ?_;rintro e w' ⟨rfl,rfl⟩;go_wp2_with fail
  refine (rinv3_c a m _ HA.out HM32.out H0.out HG.out).mono ?_;rintro e w2 ⟨rfl,hb2⟩;clear hXc0 hXf0 hXc1 hXf1;replace hX:=hX.after hb2;obtain ⟨hXc0,hXf0,hXc1,hXf1⟩:=hX.x2;go_wp2_with fail
  refine (rraise_c (invN (a%m) m) z.natAbs m _ HIL.out HZ.out HM64.out H0.out).mono ?_;rintro e w3 ⟨rfl,hb3⟩;go_wp2;go_ret2
  exact ⟨r2 (vE HP.out.symm) rfl,bt (bt (bt (b1 _ _) hb1) hb2) hb3⟩
 ·have HP:Hid (powI a z m=a^z.natAbs%m):=by rw [Hid,powI,if_neg hn]
  rw [sg_of_nonneg (show 0≤z by omega)] at hX HIV ⊢;clear ha hz hm h0 hm64 hg hn;go_enter Tryz.func189,Tryz.ntmps189
  go_wp2_with fail
  refine (rvalidE_c a _ HA.out).mono ?_;rintro e w' ⟨rfl,rfl⟩;go_wp2_with fail
  refine (HIV.out).mono ?_;rintro e w1 ⟨rfl,hb1⟩;replace hX:=hX.after hb1;obtain ⟨hXc0,hXf0,hXc1,hXf1⟩:=hX.x2;go_wp2_with fail
  refine (rvalidE_c m _ HM.out).mono ?_;rintro e w' ⟨rfl,rfl⟩;go_wp2_with fail
  refine (rraise_c a z.natAbs m _ HA.out HZ.out HM64.out H0.out).mono ?_;rintro e w3 ⟨rfl,hb3⟩;go_wp2;go_ret2
  exact ⟨r2 (vE HP.out.symm) rfl,bt (bt (b1 _ _) hb1) hb3⟩
end
section
open Go.RowKit
theorem info_nat:(Tryz.prog.info? 31).map (fun i=>(i.zero,i.size,i.bytes))=some (some (.string { data:=#[] }),1,16):=by kernel_rfl
theorem strs_len (l:List Nat):(strs l).length=l.length:=by simp [strs]
theorem strs_one (l:List Nat):∀u∈strs l,u.oneCell'=true:=by
 intro u hu;obtain ⟨n,_,rfl⟩:=List.mem_map.1 hu;rfl
theorem strs_app (a b:List Nat):strs a++strs b=strs (a++b):=by simp [strs]
theorem Blk.cells {w:World} {g:Nat} {T:TypeId} {cs:List Value} (h:Blk w g T cs):∀j u,cs[j]?=some u→w.cell? ((⟨g,0,none⟩:Addr).add j)=some u:=by
 intro j u hu;rw [Addr.add_lit,Nat.zero_add,h.cell,hu]
theorem own_cell {w:World} {base g n c:Nat} {e:TypeId} {xs:List Value} (h:w.ownsRow base e 1 (.slice (some ⟨g,0,none⟩) n c) n xs) (j:Nat) (u:Value) (hj:xs[j]?=some u):w.cell? ⟨g,j,none⟩=some u:=by
 have:=h.cells (g:=g) rfl j u hj;rwa [Addr.add_lit,Nat.zero_add] at this
theorem Below.of_grown {w w':World} (h:w.grownBy w' none):Below w.heap.size w w':=(Below.refl _ _).grown h (Nat.le_refl _) (by simp)
theorem mcheck_c (b b':Nat) (l:List Nat) (x:Nat) (w:World) (hl0:0<l.length) (hl:l.length≤1000) (hv:∀n∈l,n<256^128) (hx:x<256^128) (h0:0<x) (hB:Blk w b 31 (strs l)) (hB':Blk w b' 31 (strs [x])) :
  Calls Tryz.prog 100 #[.slice (some ⟨b,0,none⟩) l.length l.length,.slice (some ⟨b',0,none⟩) 1 1] w fun e w'=>e=.returned (.int .i64 0)∧Below w.heap.size w w':=by
 obtain ⟨i0,hi0,hz0,hz1,hz2⟩:=info_parts info_nat
 have HV:Hid (∀n∈l++[x],n<256^128):=by
  intro n hn;rcases List.mem_append.1 hn with h | h
  ·exact hv n h
  ·rw [List.mem_singleton] at h;rw [h];exact hx
 have HL:=Lib.hid (strs_len l);have hz:=nzE h0;have HI:=Lib.hid hi0;have HZ0:=Lib.hid hz0;have HZ1:=Lib.hid hz1;have HZ2:=Lib.hid hz2;clear hv hx h0 hi0 hz0 hz1 hz2;go_enter Tryz.func100,Tryz.ntmps100
 go_wp2_with (at_builtin;refine wpList_append_grows _ rfl _ _ _ rfl 31 i0 _ 1 16 Tryz.underlying40 HI.out HZ0.out HZ1.out HZ2.out rfl (by omega) (some ⟨b,0,none⟩) l.length l.length (strs l) rfl (fun h=>(by cases h)) (by rw [HL.out,Nat.mul_one]) (fun a ha=>by cases ha;exact hB.cells) ⟨b',0,none⟩ 1 1 (strs [x]) rfl rfl hB'.cells (strs_one _) (by omega) (by simp only [maxLen];omega) (by omega) ?_;intro v1 w1 hown hgrow;obtain ⟨g,c,rfl,hg1,hg2⟩:=hown.form (by omega);rw [strs_app] at hown)
 have hb1:=Below.of_grown hgrow;have hB2:=hB'.after hb1;have hc0:w1.cell? ⟨b',0,none⟩=some (.string (E x)):=hB2.cell 0
 have HC:Hid (∀j (hj:j<(l++[x]).length),w1.cell? ⟨g,j,none⟩=some (.string (E (l++[x])[j]))):=by
  intro j hj;exact own_cell hown j _ (by simp only [strs,List.getElem?_map,List.getElem?_eq_getElem hj,Option.map_some])
 clear hown hgrow hB hB' hB2;go_loop [13] (fun i=>∃k:Nat,k≤l.length+1∧i=.int .i64 k) (fun i=>l.length+1-(intOf i).toNat)
 case atStart=>exact ⟨0,by omega,rfl⟩
 case round =>
  obtain ⟨k,hk,rfl⟩:=hrel;by_cases hlt:k<l.length+1
  ·have hkl:k<(l++[x]).length:=by simp;omega
   have hc:=HC.out k hkl;have HN:=Lib.hid (HV.out _ (List.getElem_mem hkl));generalize (l++[x])[k]=n at hc HN;go_wp2_with fail
   refine (validE_c n _ HN.out).mono ?_;rintro e w' ⟨rfl,rfl⟩;go_wp2;go_round
   case rel=>exact ⟨k+1,by omega,by go_num⟩
   case measure=>simp [intOf];omega
  ·obtain rfl:k=l.length+1:=by omega
   go_wp2;go_loop [23] (fun i=>i=.int .i64 0∨i=.int .i64 1) (fun i=>1-(intOf i).toNat)
   case atStart=>exact .inl rfl
   case round =>
    rcases hrel with rfl | rfl
    ·go_wp2;go_round
     case rel=>exact .inr rfl
     case measure=>simp [intOf]
    ·go_wp2;go_ret
     exact ⟨rfl,hb1⟩
theorem mreduced_c (a m:Nat) (w:World) (ha:a<256^8) (hm:m<256^128) (h0:0<m) :
  Calls Tryz.prog 101 #[.string (E a),.string (E m)] w fun e w'=>e=.returned (.string (E (a%m)))∧Below w.heap.size w w':=by
 have HA:=Lib.hid ha;have HM:=Lib.hid hm;have H0:=Lib.hid h0;clear ha hm h0;go_enter Tryz.func101,Tryz.ntmps101
 go_wp2_with fail
 refine (divmod_c a m _ HA.out HM.out H0.out).mono ?_;rintro e w1 ⟨rfl,hb1⟩;go_wp2;go_ret
 exact ⟨rfl,hb1⟩
theorem mul64F_c (x y:Nat) (w:World) (hx:x<256^8) (hy:y<256^8) :
  Calls Tryz.prog 145 #[.int .u64 x,.int .u64 y] w fun e w'=>e=.returned (.tuple #[.int .u64 ((x*y / 256^8:Nat):Int),.int .u64 ((x*y%256^8:Nat):Int)])∧w=w':=by
 rw [←u64_as_pow] at hx hy;exact (Tryz.bits_Mul64 x y hx hy w).mono fun _ _ h2=>⟨h2.1,h2.2.symm⟩
theorem mulMod_c (a b m hi lo:Nat) (w:World) (ha:a%m<256^8) (hb:b%m<256^8) (hhi:a%m*(b%m) / 256^8=hi) (hlo:a%m*(b%m)%256^8=lo) :
  Calls Tryz.prog 145 #[.int .u64 ((a:Int)%(m:Int)),.int .u64 ((b:Int)%(m:Int))] w fun e w'=>e=.returned (.tuple #[.int .u64 hi,.int .u64 lo])∧w=w':=by
 rw [←Int.natCast_emod,←Int.natCast_emod,←hhi,←hlo];exact mul64F_c _ _ w ha hb
theorem rem64R_c (hi lo y r:Nat) (w:World) (h1:hi<y) (hy:y<256^8) (hl:lo<256^8) (hr:(hi*256^8+lo)%y=r) :
  Calls Tryz.prog 146 #[.int .u64 hi,.int .u64 lo,.int .u64 y] w fun e w'=>e=.returned (.int .u64 (r:Int))∧Below w.heap.size w w':=by
 rw [←hr];exact rem64_c hi lo y w h1 hy hl
theorem mtimes_aux (a b m hi lo r:Nat) (w:World) (ha:a<256^8) (hb:b<256^8) (hm:m<256^8) (h0:0<m) (hhi:a%m*(b%m) / 256^8=hi) (hlo:a%m*(b%m)%256^8=lo) (hr:(hi*256^8+lo)%m=r) (h1:hi<m) (hl:lo<256^8) :
  Calls Tryz.prog 122 #[.string (E a),.string (E b),.string (E m)] w fun e w'=>e=.returned (.string (E r))∧Below w.heap.size w w':=by
 have h1:=(E_size_le a 8).2 ha;have h2:=(E_size_le b 8).2 hb;have h3:=(E_size_le m 8).2 hm;have HA:=Lib.hid ha;have HB:=Lib.hid hb;have HM:=Lib.hid hm;have HR:=Lib.hid (rem64R_c hi lo m r · ‹_› hm hl hr);have HRB:Hid (r<256^8):=by rw [Hid,←hr];exact Nat.lt_trans (Nat.mod_lt _ h0) hm
 have HU:=Lib.hid (mulMod_c a b m hi lo · (Nat.lt_trans (Nat.mod_lt a h0) hm) (Nat.lt_trans (Nat.mod_lt b h0) hm) hhi hlo);have hy0:¬ m=0:=by omega
 clear ha hb hm h0 hhi hlo hr hl ‹hi<m›;go_enter Tryz.func122,Tryz.ntmps122
 go_wp2_with fail
 refine (small_c a _ HA.out).mono ?_;rintro e w' ⟨rfl,rfl⟩;go_wp2_with fail
 refine (small_c b _ HB.out).mono ?_;rintro e w' ⟨rfl,rfl⟩;go_wp2_with fail
 refine (small_c m _ HM.out).mono ?_;rintro e w' ⟨rfl,rfl⟩;go_wp2_with fail
 refine wp_region_gw (by kernel_rfl) (by kernel_rfl) ?_;repeat (go_big_quiet_step (first | (go_at_call 145;exact gw_same (HU.out _))))
 refine wpQuiet_nil ?_;rintro w1 ⟨xw1,rfl⟩;have hb1:=gw_below xw1;generalize gw xw1=w1 at hb1;go_wp2_with fail
 refine (HR.out _).mono ?_;rintro e w2 ⟨rfl,hb2⟩;go_wp2_with fail
 refine (of_c r _ HRB.out).mono ?_;rintro e w3 ⟨rfl,hb3⟩;go_wp2;go_ret
 exact ⟨rfl,bt (bt hb1 hb2) hb3⟩
theorem mtimes_c (a b m:Nat) (w:World) (ha:a<256^8) (hb:b<256^8) (hm:m<256^8) (h0:0<m) :
  Calls Tryz.prog 122 #[.string (E a),.string (E b),.string (E m)] w fun e w'=>e=.returned (.string (E (a*b%m)))∧Below w.heap.size w w':=by
 have hla:=Nat.mod_lt a h0;have hlb:=Nat.mod_lt b h0;have hp:(0:Nat)<256^8:=by decide
 refine mtimes_aux a b m _ _ _ w ha hb hm h0 rfl rfl ?_ ?_ (Nat.mod_lt _ hp)
 ·rw [Nat.mul_comm _ (256^8),Nat.div_add_mod,←Nat.mul_mod]
 ·rw [Nat.div_lt_iff_lt_mul hp];exact Nat.mul_lt_mul'' hla (Nat.lt_trans hlb hm)
theorem mmul_c (a b m:Nat) (w:World) (ha:a<256^8) (hb:b<256^8) (hm:m<256^8) (h0:0<m) :
  Calls Tryz.prog 86 #[.string (E a),.string (E b),.string (E m)] w fun e w'=>e=.returned (.tuple #[.string (E (a*b%m)),.int .i64 0])∧Below w.heap.size w w':=by
 have HC:=Lib.hid (mcheck_c w.heap.size (w.heap.size+1) [a,b] m ((w.alloc (.cells #[.string (E a),.string (E b)] 31)).alloc (.cells #[.string (E m)] 31)) (by simp) (by simp) (by simp [lt128 ha,lt128 hb]) (lt128 hm) h0 (blk2a _ _ _ _ _) (blk2b _ _ _ _ _));have HT:=Lib.hid (mtimes_c a b m · ha hb hm h0);clear ha hb hm h0;go_enter Tryz.func86,Tryz.ntmps86
 go_wp2_with fail
 refine (HC.out).mono ?_;rintro e w1 ⟨rfl,hb1⟩;go_wp2_with fail
 refine (HT.out _).mono ?_;rintro e w2 ⟨rfl,hb2⟩;go_wp2;go_ret2
 exact ⟨rfl,bt (bt (b2 _ _ _) hb1) hb2⟩
theorem mplus_c (a b m:Nat) (w:World) (ha:a<m) (hb:b≤m) (hm:m<256^8) :
  Calls Tryz.prog 102 #[.string (E a),.string (E b),.string (E m)] w fun e w'=>e=.returned (.string (E ((a+b)%m)))∧Below w.heap.size w w':=by
 have HM:=Lib.hid (lt128 hm);have HB:=Lib.hid hb;have HA:=Lib.hid (lt128 (Nat.lt_trans ha hm));have HBB:=Lib.hid (lt128 (Nat.lt_of_le_of_lt hb hm));have HMB:=Lib.hid (lt128 (Nat.lt_of_le_of_lt (Nat.sub_le m b) hm));rcases Nat.lt_or_ge a (m-b) with h | h
 ·have hc:=cmp_neg a (m-b) h;have hs:a+b<256^8:=by omega
  have HS:=Lib.hid (lt128 hs);have HE:Hid ((a+b)%m=a+b):=Nat.mod_eq_of_lt (by omega);clear ha hb hm h hs;go_enter Tryz.func102,Tryz.ntmps102
  go_wp2_with fail
  refine (sub_c m b _ HM.out HB.out).mono ?_;rintro e w1 ⟨rfl,hb1⟩;go_wp2_with fail
  refine (cmp_c a (m-b) _ HA.out HMB.out).mono ?_;rintro e w' ⟨rfl,rfl⟩;go_wp2_with fail
  refine (add_c a b _ HA.out HBB.out HS.out).mono ?_;rintro e w2 ⟨rfl,hb2⟩;go_wp2;go_ret
  exact ⟨rE HE.out.symm,bt hb1 hb2⟩
 ·have hc:=cmp_nneg a (m-b) h;have HH:=Lib.hid h
  have HE:Hid ((a+b)%m=a-(m-b)):=by
   have e:a+b=a-(m-b)+m:=by omega
   rw [Hid,e,Nat.add_mod_right,Nat.mod_eq_of_lt (by omega)]
  clear ha hb hm h;go_enter Tryz.func102,Tryz.ntmps102
  go_wp2_with fail
  refine (sub_c m b _ HM.out HB.out).mono ?_;rintro e w1 ⟨rfl,hb1⟩;go_wp2_with fail
  refine (cmp_c a (m-b) _ HA.out HMB.out).mono ?_;rintro e w' ⟨rfl,rfl⟩;go_wp2_with fail
  refine (sub_c a (m-b) _ HA.out HH.out).mono ?_;rintro e w2 ⟨rfl,hb2⟩;go_wp2;go_ret
  exact ⟨rE HE.out.symm,bt hb1 hb2⟩
theorem subM_zero (a b m:Nat) (h0:0<m) (h:b%m=0):a%m=subM a b m:=by
 unfold subM;rw [h,Nat.sub_zero,Nat.add_mod_right,Nat.mod_mod]
theorem subM_pos (a b m:Nat) (h0:0<m):(a+(m-b%m))%m=subM a b m:=by
 unfold subM;have:=Nat.mod_lt b h0;rw [Nat.add_sub_assoc (Nat.le_of_lt this),Nat.mod_add_mod]
theorem msub_c (a b m:Nat) (w:World) (ha:a<256^8) (hb:b<256^8) (hm:m<256^8) (h0:0<m) :
  Calls Tryz.prog 64 #[.string (E a),.string (E b),.string (E m)] w fun e w'=>e=.returned (.tuple #[.string (E (subM a b m)),.int .i64 0])∧Below w.heap.size w w':=by
 have HC:=Lib.hid (mcheck_c w.heap.size (w.heap.size+1) [a,b] m ((w.alloc (.cells #[.string (E a),.string (E b)] 31)).alloc (.cells #[.string (E m)] 31)) (by simp) (by simp) (by simp [lt128 ha,lt128 hb]) (lt128 hm) h0 (blk2a _ _ _ _ _) (blk2b _ _ _ _ _));have HA:=Lib.hid ha;have HB:=Lib.hid hb;have HM:=Lib.hid (lt128 hm);have H0:=Lib.hid h0;by_cases hz:b%m=0
 ·have hzz:=zE hz;have HS:=Lib.hid (subM_zero a b m h0 hz);clear ha hb hm h0 hz;go_enter Tryz.func64,Tryz.ntmps64
  go_wp2_with fail
  refine (HC.out).mono ?_;rintro e w1 ⟨rfl,hb1⟩;go_wp2_with fail
  refine (mreduced_c a m _ HA.out HM.out H0.out).mono ?_;rintro e w2 ⟨rfl,hb2⟩;go_wp2_with fail
  refine (mreduced_c b m _ HB.out HM.out H0.out).mono ?_;rintro e w3 ⟨rfl,hb3⟩;go_wp2;go_ret2
  exact ⟨r2 (vE HS.out) rfl,bt (bt (bt (b2 _ _ _) hb1) hb2) hb3⟩
 ·have hzz:=nzE (Nat.pos_of_ne_zero hz);have HS:=Lib.hid (subM_pos a b m h0);have HLA:=Lib.hid (Nat.mod_lt a h0);have HLB:=Lib.hid (Nat.le_of_lt (Nat.mod_lt b h0));have HLS:=Lib.hid (Nat.sub_le m (b%m));have HM8:=Lib.hid hm;clear ha hb hm h0 hz;go_enter Tryz.func64,Tryz.ntmps64
  go_wp2_with fail
  refine (HC.out).mono ?_;rintro e w1 ⟨rfl,hb1⟩;go_wp2_with fail
  refine (mreduced_c a m _ HA.out HM.out H0.out).mono ?_;rintro e w2 ⟨rfl,hb2⟩;go_wp2_with fail
  refine (mreduced_c b m _ HB.out HM.out H0.out).mono ?_;rintro e w3 ⟨rfl,hb3⟩;go_wp2_with fail
  refine (sub_c m (b%m) _ HM.out HLB.out).mono ?_;rintro e w4 ⟨rfl,hb4⟩;go_wp2_with fail
  refine (mplus_c (a%m) (m-b%m) m _ HLA.out HLS.out HM8.out).mono ?_;rintro e w5 ⟨rfl,hb5⟩;go_wp2;go_ret2
  exact ⟨r2 (vE HS.out) rfl,bt (bt (bt (bt (bt (b2 _ _ _) hb1) hb2) hb3) hb4) hb5⟩
end
section
open Go.RowKit Go.Shelf
attribute [local go_sem] Oper.semAt_some
def upto {α:Type} (f:Nat→α) (k:Nat):List α:=(List.range k).map f
theorem upto_succ {α:Type} (f:Nat→α) (k:Nat):upto f (k+1)=upto f k++[f k]:=by simp [upto,List.range_succ]
theorem upto_length {α:Type} (f:Nat→α) (k:Nat):(upto f k).length=k:=by simp [upto]
def bitAt (e k:Nat):Bool:=bitB e (nb e-1-k)
def bval (l:List Bool):Nat:=l.foldl (fun n b=>2*n+b.toNat) 0
theorem bval_snoc (l:List Bool) (b:Bool):bval (l++[b])=2*bval l+b.toNat:=by simp [bval]
theorem bval_upto (e k:Nat) (h:k≤nb e):bval (upto (bitAt e) k)=e / 2^(nb e-k):=by
 induction k with
 | zero=>rw [Nat.sub_zero,Nat.div_eq_of_lt (lt_nb e)];rfl
 | succ k ih =>
  rw [upto_succ,bval_snoc,ih (by omega)];have e1:nb e-k=(nb e-(k+1))+1:=by omega
  have e2:bitAt e k=bitB e (nb e-(k+1)):=by unfold bitAt;congr 1;omega
  rw [e2,e1];cases hb:bitB e (nb e-(k+1))
  ·rw [bit_nil hb];rfl
  ·rw [bit_one hb];rfl
theorem bval_all (e:Nat):bval (upto (bitAt e) (nb e))=e:=by
 rw [bval_upto e _ (Nat.le_refl _),Nat.sub_self,Nat.pow_zero,Nat.div_one]
theorem wide_depth {n:Nat}:Fence.wide.depth.isSome=true→1≤n:=fun h=>by simp [Fence.wide] at h
def KpE (b:Nat) (A B:World):Prop:=B.cell? ⟨b,0,none⟩=A.cell? ⟨b,0,none⟩
theorem digits1_in (n l b e:Nat) (he:e<256^128) (J Jx:List Bool→World→Prop)
  (hY:∀pre x W,J pre W→pre.length<nb e→YieldAt Fence.wide (n-1) Tryz.prog l #[.bool x] W fun e W' =>
   (e=.returned (.bool true)∧J (pre++[x]) W'∧KpE b W W')∨(e=.returned (.bool false)∧Jx (pre++[x]) W'))
  (W:World) (hc:W.cell? ⟨b,0,none⟩=some (.string (E e))) (h0:J [] W) :
  CallsIn Fence.wide n Tryz.prog 200 #[.func (.yield l) #[] #[],.pointer (some ⟨b,0,none⟩)] W fun r W'=>(∃v,r=.returned v) ∧
   ((∃ys,ys=upto (bitAt e) (nb e)∧J ys W')∨(∃pre,True∧Jx pre W')):=by
 have HE:=Lib.hid he;have hnb:=nb_le e 128 (sz e he);clear he;refine callsIn_of_wp Tryz.func200 rfl trivial ?_ rfl;simp only [Tryz.ntmps200,List.size_toArray,List.length_cons,List.length_nil,Nat.reduceAdd,Nat.reduceSub,Array.replicate_succ,Array.replicate_zero,List.push_toArray,List.append_toArray,List.nil_append,List.cons_append];gi_wp2_with fail
 refine ⟨trivial,wide_depth,?_⟩;refine (callsIn_wide.2 (bits_c e _ HE.out)).mono ?_;rintro e w' ⟨rfl,rfl⟩;gi_wp2
 gi_loopw [3] (fun i wr=>∃j:Nat,j≤nb e∧i=.int .i64 ((j:Int)-1)∧J (upto (bitAt e) (nb e-j)) wr∧wr.cell? ⟨b,0,none⟩=some (.string (E e)))
  (fun i _=>(intOf i+1).toNat)
 case atStart=>exact ⟨nb e,Nat.le_refl _,rfl,by rw [Nat.sub_self];exact h0,hc⟩
 case round =>
  obtain ⟨j,hj,rfl,hJs,hcc⟩:=hrel;by_cases hlt:0<j
  ·obtain ⟨i,rfl⟩:∃i,j=i+1:=⟨j-1,by omega⟩;have HI:Hid (((i+1:Nat):Int)-1=(i:Int)):=by unfold Hid;omega
   rw [HI.out];have hx:bitAt e (nb e-(i+1))=bitB e i:=by unfold bitAt;congr 1;omega
   obtain ⟨fn,tmps,assign,body,hy,hR⟩:=hY _ (bitB e i) wr hJs (by rw [upto_length];omega)
   have HS:Hid (upto (bitAt e) (nb e-i)=upto (bitAt e) (nb e-(i+1))++[bitB e i]):=by
    rw [Hid,←hx,←upto_succ];congr 1;omega
   clear hx;gi_wp2_with fail
   refine ⟨trivial,wide_depth,?_⟩;refine (callsIn_wide.2 (bit_c e i _ HE.out (by omega))).mono ?_;rintro e w' ⟨rfl,rfl⟩;gi_wp2
   refine ⟨wide_depth,hR.mono ?_⟩;rintro r W3 (⟨rfl,hJ3,hk3⟩ | ⟨rfl,hJx3⟩)
   ·gi_wp2
    go_roundw
    case rel=>exact ⟨i,by omega,rfl,by rw [HS.out];exact hJ3,hk3.trans hcc⟩
    case measure=>simp [intOf] <;> omega
   ·gi_wp2
    refine bodyPost_ret (results_none rfl _ _ _) rfl ?_;exact ⟨⟨_,rfl⟩,.inr ⟨_,trivial,hJx3⟩⟩
  ·obtain rfl:j=0:=by omega
   gi_wp2
   go_end0
   exact ⟨⟨_,rfl⟩,.inl ⟨_,by rw [Nat.sub_zero],hJs⟩⟩
theorem digits_stops (n b e:Nat) (he:e<256^128) (w:World) (hb:b<w.heap.size) (hc:w.cell? ⟨b,0,none⟩=some (.string (E e))) :
  SeqStopsK Fence.wide n Tryz.prog 200 #[.pointer (some ⟨b,0,none⟩)] (fun x:Bool=>#[.bool x]) (KpE b) (fun xs=>xs=upto (bitAt e) (nb e)) (fun _=>True) (nb e) w:=
 fun l J Jx W hW hJ hJx hY h0=>digits1_in n l b e he J Jx hY W ((hW.cell (p:=⟨b,0,none⟩) hb).trans hc) h0
theorem mdigits_c (e:Nat) (w:World) :
  Calls Tryz.prog 192 #[.string (E e)] w fun r w'=>r=.returned (.func (.func 200) #[] #[.pointer (some ⟨w.heap.size,0,none⟩)])∧w'=w.alloc (.cells #[.string (E e)] 31):=by
 go_enter Tryz.func192,Tryz.ntmps192
 go_wp2;go_ret
 exact ⟨rfl,rfl⟩
theorem keeps_of_below {W W':World} (h:Below W.heap.size W W'):KeepsOthers W W':=
 ⟨h.size,fun k o hk _=>(h.block k (Array.getElem?_eq_some_iff.1 hk).1).trans hk⟩
theorem mred1_c (m:Nat) (w:World) (hm:m<256^128) (h0:0<m) :
  Calls Tryz.prog 101 #[.string { data:=#[1] },.string (E m)] w fun e w'=>e=.returned (.string (E (1%m)))∧Below w.heap.size w w':=
 mreduced_c 1 m w (by decide) hm h0
theorem blk4c (w:World) (O P D:Obj) (C:Array Value) (T:TypeId):Blk ((((w.alloc O).alloc P).alloc (.cells C T)).alloc D) (w.heap.size+1+1) T C.toList:=by
 have h:=(Blk.new ((w.alloc O).alloc P) C T).alloc D;rw [show ((w.alloc O).alloc P).heap.size=w.heap.size+1+1 by simp] at h;exact h
theorem blk4d (w:World) (O P Q:Obj) (C:Array Value) (T:TypeId):Blk ((((w.alloc O).alloc P).alloc Q).alloc (.cells C T)) (w.heap.size+1+1+1) T C.toList:=by
 have h:=Blk.new (((w.alloc O).alloc P).alloc Q) C T;rw [show (((w.alloc O).alloc P).alloc Q).heap.size=w.heap.size+1+1+1 by simp] at h;exact h
theorem Blk.own {A B:World} {g:Nat} {T:TypeId} {cs:List Value} {row:Option Nat} (h:Blk A g T cs) (hg:A.grownBy B row) (hr:∀r,row=some r→∃o:Obj,A.heap[r]?=some o∧o.isCells=false):Blk B g T cs:=by
 unfold Blk;rw [hg.block g h.lt (fun e=>?_)]
 ·exact h
 ·obtain ⟨o,ho,hc⟩:=hr g e.symm;rw [show A.heap[g]?=some (.cells cs.toArray T (0,0)) from h] at ho;cases ho
  exact Bool.noConfusion hc
theorem exp_step0 (a k m:Nat):a^k%m*(a^k%m)%m=a^(2*k+Bool.toNat false)%m:=by
 rw [show 2*k+Bool.toNat false=k+k by simp [Nat.two_mul],Nat.pow_add,←Nat.mul_mod]
theorem exp_step1 (a k m:Nat):a^k%m*(a^k%m)*a%m=a^(2*k+Bool.toNat true)%m:=by
 rw [show 2*k+Bool.toNat true=k+k+1 by simp [Nat.two_mul],Nat.pow_succ,Nat.pow_add,Nat.mul_mod,show a^k%m*(a^k%m)%m=a^k*a^k%m from (Nat.mul_mod _ _ _).symm,←Nat.mul_mod]
def ExpI (w w3:World) (a e m:Nat) (pre:List Bool) (W:World):Prop:=
 Blk W w3.heap.size 31 [.string (E (a^bval pre%m))]∧Blk W (w3.heap.size+1) 31 [.string (E e)]∧Blk W w.heap.size 31 [.string (E (a%m))]∧Blk W (w.heap.size+1) 31 [.string (E m)]∧Below w.heap.size w W
theorem ExpI.own (w w3:World) (a e m B:Nat) (hB:w.heap.size≤B):OwnFrom B (ExpI w w3 a e m):=
 fun s X Y row hs hg hr=>⟨hs.1.own hg (fun r h=>(hr r h).2),hs.2.1.own hg (fun r h=>(hr r h).2),hs.2.2.1.own hg (fun r h=>(hr r h).2),hs.2.2.2.1.own hg (fun r h=>(hr r h).2),hs.2.2.2.2.grown hg hs.2.2.2.2.size (fun k h=>Nat.le_trans hB (hr k h).1)⟩
theorem mexp_c (a e m:Nat) (w:World) (ha:a<256^8) (he:e<256^128) (hm:m<256^8) (h0:0<m) :
  Calls Tryz.prog 174 #[.string (E a),.string (E e),.string (E m)] w fun r w'=>r=.returned (.tuple #[.string (E (a^e%m)),.int .i64 0])∧Below w.heap.size w w':=by
 have HA:=Lib.hid ha;have HE:=Lib.hid he;have HM:=Lib.hid (lt128 hm);have HM8:=Lib.hid hm;have H0:=Lib.hid h0;have H1:Hid ((1:Nat)<256^8):=by unfold Hid;decide
 have HC:=Lib.hid (mcheck_c (w.heap.size+1+1) (w.heap.size+1+1+1) [a,e] m ((((w.alloc (.cells #[.string (E a)] 31)).alloc (.cells #[.string (E m)] 31)).alloc (.cells #[.string (E a),.string (E e)] 31)).alloc (.cells #[.string (E m)] 31)) (by simp) (by simp) (by simp [lt128 ha,he]) (lt128 hm) h0 (blk4c _ _ _ _ _ _) (blk4d _ _ _ _ _ _));have hA:=(blk2a w #[.string (E a)] #[.string (E m)] 31 31).alloc (.cells #[.string (E a),.string (E e)] 31) |>.alloc (.cells #[.string (E m)] 31);have hM:=(blk2b w #[.string (E a)] #[.string (E m)] 31 31).alloc (.cells #[.string (E a),.string (E e)] 31) |>.alloc (.cells #[.string (E m)] 31);have hBW:Below w.heap.size w ((((w.alloc (.cells #[.string (E a)] 31)).alloc (.cells #[.string (E m)] 31)).alloc (.cells #[.string (E a),.string (E e)] 31)).alloc (.cells #[.string (E m)] 31)):=ba (ba (b2 _ _ _) _) _;clear ha he hm h0;refine (callsIn_wide (n:=3)).1 ?_;refine callsIn_of_wp_marks Tryz.func174 rfl trivial ?_ rfl;simp only [Tryz.ntmps174,List.size_toArray,List.length_cons,List.length_nil,Nat.reduceAdd,Nat.reduceSub,Array.replicate_succ,Array.replicate_zero,List.push_toArray,List.append_toArray,List.nil_append,List.cons_append];gi_wp2_with fail
 refine ⟨trivial,?_⟩;refine (callsIn_wide.2 (HC.out)).mono ?_;rintro e w1 ⟨rfl,hb1⟩;replace hA:=hA.after hb1;replace hM:=hM.after hb1;obtain ⟨hAc0,hAf0⟩:=hA.x1;obtain ⟨hMc0,hMf0⟩:=hM.x1;gi_wp2_with fail
 refine ⟨trivial,?_⟩;refine (callsIn_wide.2 (mreduced_c a m _ HA.out HM.out H0.out)).mono ?_;rintro e w2 ⟨rfl,hb2⟩;have hbw2:=(bt hBW hb1);clear hAc0 hAf0;clear hMc0 hMf0;replace hA:=hA.after hb2;replace hM:=hM.after hb2;obtain ⟨hAc0,hAf0⟩:=hA.x1;obtain ⟨hMc0,hMf0⟩:=hM.x1;gi_wp2_with fail
 refine ⟨trivial,?_⟩;refine (callsIn_wide.2 (mred1_c m _ HM.out H0.out)).mono ?_;rintro e w3 ⟨rfl,hb3⟩;have hbw3:Below w.heap.size w w3:=bt ((bt hbw2 hb2).setCell (p:=⟨w.heap.size,0,none⟩) (Nat.le_refl _) (.string (E (a%m)))) hb3;clear hAc0 hAf0;clear hMc0 hMf0;replace hA:=(hA.set 0 (.string (E (a%m)))).after hb3;replace hM:=(hM.other ⟨w.heap.size,0,none⟩ (.string (E (a%m))) (by simp)).after hb3;clear hbw2 hBW;gi_wp2_with fail
 refine ⟨trivial,?_⟩;refine (callsIn_wide.2 (mdigits_c e _)).mono ?_;rintro r w4 ⟨rfl,rfl⟩;gi_wp2_with fail
 have hl3:w.heap.size+1<w3.heap.size:=hM.lt;have hO:=blk2a w3 #[.string (E (1%m))] #[.string (E e)] 31 31;have hE:=blk2b w3 #[.string (E (1%m))] #[.string (E e)] 31 31;replace hA:=(hA.alloc (.cells #[.string (E (1%m))] 31)).alloc (.cells #[.string (E e)] 31);replace hM:=(hM.alloc (.cells #[.string (E (1%m))] 31)).alloc (.cells #[.string (E e)] 31);have hB4:=ba (ba hbw3 (.cells #[.string (E (1%m))] 31)) (.cells #[.string (E e)] 31);have hz4:((w3.alloc (.cells #[.string (E (1%m))] 31)).alloc (.cells #[.string (E e)] 31)).heap.size=w3.heap.size+1+1:=by simp
 clear hb1 hb2 hb3 hbw3 HC
 refine wpIn_rangeFunc_ownF rfl (by omega) (gf:=200) (lb:=#[.pointer (some ⟨w3.heap.size+1,0,none⟩)]) rfl trivial (enters_of Tryz.func200 (by kernel_rfl) rfl)
  (digits_stops _ (w3.heap.size+1) e HE.out _ hE.lt (hE.cell 0)) (fun h k=>k.trans h)
  (fun W l o o' hl ho h1 h2=>(belowK_b (Nat.le_refl _) W l o o' hl ho h1 h2).cell (p:=⟨w3.heap.size+1,0,none⟩) (by rw [hz4];simp)) (Below.refl _ _) (fun _=>rfl)
  (ExpI w w3 a e m) (fun _ _ _=>False) (ExpI.own w w3 a e m _ (by rw [hz4];omega)) (fun _ _ _ _ _ hs _ _=>hs)
  ⟨hO,hE,hA,hM,hB4⟩
  (fun x=>{ tmps:=#[.string (E a),.string (E e),.string (E m),.pointer (some ⟨w.heap.size,0,none⟩),undef,.pointer (some ⟨w.heap.size+1,0,none⟩),.string { data:=#[] },.int .i64 0,.int .i64 0,.pointer (some ⟨w3.heap.size,0,none⟩),.bool x,.string (E a),.string (E e),.slice (some ⟨w.heap.size+1+1,0,none⟩) 2 2,.string (E m),.slice (some ⟨w.heap.size+1+1+1,0,none⟩) 1 1,.int .i64 0,.int .i64 0,.bool false,undef,.string (E a),.string (E m),.string (E (a%m)),.string (E m),.string (E (1%m)),.string (E e),.func (.func 200) #[] #[.pointer (some ⟨w3.heap.size+1,0,none⟩)],.bool x,undef,undef,undef,undef,undef,undef,undef,undef,undef,undef],defers:=[] }) ?assign ?body ?done ?stop
 case assign =>
  intro l x W K hK;gi_wp2
  exact hK
 case body =>
  rintro l pre x W ⟨iO,iE,iA,iM,iB⟩ _;have HS:=Lib.hid (bval_snoc pre x);have hlt:=Nat.mod_lt (a^bval pre) H0.out;have HP0:=Lib.hid (exp_step0 a (bval pre) m);have HP1:=Lib.hid (exp_step1 a (bval pre) m);generalize a^bval pre%m=y at iO hlt HP0 HP1;have HY:=Lib.hid (Nat.lt_trans hlt HM8.out);have HYY:=Lib.hid (Nat.lt_trans (Nat.mod_lt (y*y) H0.out) HM8.out);have HAM:=Lib.hid (Nat.lt_trans (Nat.mod_lt a H0.out) HM8.out);clear hlt;have iEc:=iE.cell 0;obtain ⟨iOc0,iOf0⟩:=iO.x1;obtain ⟨iAc0,iAf0⟩:=iA.x1;obtain ⟨iMc0,iMf0⟩:=iM.x1;have iBs:w.heap.size≤w3.heap.size:=by omega
  cases x
  ·gi_wp2_with fail
   refine ⟨trivial,?_⟩;refine (CallsIn.inRound _ (callsIn_wide.2 (mtimes_c y y m _ HY.out HY.out HM8.out H0.out))).mono ?_;rintro e w5 ⟨rfl,hb5⟩;clear iOc0 iOf0;clear iAc0 iAf0;clear iMc0 iMf0;replace iO:=iO.after hb5;replace iE:=iE.after hb5;replace iA:=iA.after hb5;replace iM:=iM.after hb5;obtain ⟨iOc0,iOf0⟩:=iO.x1;gi_wp2
   refine ⟨(keeps_of_below hb5).trans (KeepsOthers.setCell _ _ _),?_,?_,iE.other _ _ (by simp),iA.other _ _ (by simp;omega),iM.other _ _ (by simp;omega),(bt iB hb5).setCell (p:=⟨w3.heap.size,0,none⟩) iBs _⟩
   ·exact (iE.other _ _ (by simp)).cell 0 |>.trans (iEc.symm)
   ·rw [HS.out,←HP0.out];exact iO.set 0 _
  ·gi_wp2_with fail
   refine ⟨trivial,?_⟩;refine (CallsIn.inRound _ (callsIn_wide.2 (mtimes_c y y m _ HY.out HY.out HM8.out H0.out))).mono ?_;rintro e w5 ⟨rfl,hb5⟩;clear iOc0 iOf0;clear iAc0 iAf0;clear iMc0 iMf0;replace iO:=iO.after hb5;replace iE:=iE.after hb5;replace iA:=iA.after hb5;replace iM:=iM.after hb5;obtain ⟨iOc0,iOf0⟩:=iO.x1;obtain ⟨iAc0,iAf0⟩:=iA.x1;obtain ⟨iMc0,iMf0⟩:=iM.x1;gi_wp2_with fail
   refine ⟨trivial,?_⟩;refine (CallsIn.inRound _ (callsIn_wide.2 (mtimes_c (y*y%m) (a%m) m _ HYY.out HAM.out HM8.out H0.out))).mono ?_;rintro e w6 ⟨rfl,hb6⟩;clear iOc0 iOf0;clear iAc0 iAf0;clear iMc0 iMf0;replace iO:=(iO.set 0 (.string (E (y*y%m)))).after hb6;replace iE:=(iE.other ⟨w3.heap.size,0,none⟩ (.string (E (y*y%m))) (by simp)).after hb6;replace iA:=(iA.other ⟨w3.heap.size,0,none⟩ (.string (E (y*y%m))) (by simp;omega)).after hb6;replace iM:=(iM.other ⟨w3.heap.size,0,none⟩ (.string (E (y*y%m))) (by simp;omega)).after hb6;have iB6:=bt ((bt iB hb5).setCell (p:=⟨w3.heap.size,0,none⟩) iBs (.string (E (y*y%m)))) hb6;obtain ⟨iOc0,iOf0⟩:=iO.x1;gi_wp2
   refine ⟨(((keeps_of_below hb5).trans (KeepsOthers.setCell _ _ _)).trans (keeps_of_below hb6)).trans (KeepsOthers.setCell _ _ _),?_,?_,iE.other _ _ (by simp),iA.other _ _ (by simp;omega),iM.other _ _ (by simp;omega),iB6.setCell (p:=⟨w3.heap.size,0,none⟩) iBs _⟩
   ·exact (iE.other _ _ (by simp)).cell 0 |>.trans (iEc.symm)
   ·rw [HS.out,←HP1.out];exact iO.set 0 _
 case done =>
  rintro D ys W hD rfl ⟨iO,iE,iA,iM,iB⟩ hK;rw [bval_all] at iO;obtain ⟨iOc0,iOf0⟩:=iO.x1;gi_wp2
  refine ⟨by simp,.inl ⟨_,_,rfl,run_takeDeferred hK,?_⟩⟩;refine ⟨.tuple #[.string (E (a^e%m)),.int .i64 0],by simp [results,Tryz.results174,go_sem],rfl,?_⟩;exact iB.trans (belowK_b (w:=w) (Nat.le_refl _) W D _ _ (by rw [hz4] at hD;omega) hK rfl rfl)
 case stop =>
  rintro D c pre W _ _ h _;exact h.elim
end
end Go.Proofs.YtdoacbdkbbpamaaGreatDoor
